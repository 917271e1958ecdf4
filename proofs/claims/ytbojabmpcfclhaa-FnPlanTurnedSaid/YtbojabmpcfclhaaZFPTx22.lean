import Derived.Test.YtbojabmpcfclhaaZFPTx21
/- Lemmas on the printed functions of FnPlanTurned: what each comes to. -/
namespace Go.Proofs.Ytbojabmpcfclhaa.QFnPlanTurned
open Go.RowKit Go.Proofs.Ytbojabmpcfclhaa.PFnPlanTurned Go.Proofs.YtbojabmpcfclhaaW.PrintWords Go.Proofs.YtbojabmpcfclhaaW.PrintLast Go.Proofs.Ytbojabmpcfclhaa.Math
set_option linter.unusedVariables false
set_option linter.unusedSimpArgs false

theorem in_eq (a b c : Int) : spec_l01In.f a b c = some (decide (b ≤ a ∧ a ≤ c)) := by
 simp only [spec_l01In.f, if_dec]

theorem rdStep {xs : List S36} {i : Nat} (h : i < xs.length) : rd_T36 xs (i : Int) = xs[i] := by
 simp [rd_T36, List.getD_eq_getElem?_getD, List.getElem?_eq_getElem h]

def fldOk (f : Int) : Prop := 0 ≤ f ∧ f < 9
instance fldOk_dec (f : Int) : Decidable (fldOk f) := by unfold fldOk; infer_instance
def fP : List Int := [17, 97, 193, 257, 7681, 12289, 998244353, 469762049, 1004535809]
def fG : List Int := [3, 5, 5, 3, 17, 11, 3, 3, 3]
def fT : List Int := [4, 5, 6, 8, 9, 12, 23, 26, 21]
theorem fld_cases {f : Int} (h : fldOk f) {Q : Int → Prop} (h0 : Q 0) (h1 : Q 1) (h2 : Q 2) (h3 : Q 3) (h4 : Q 4) (h5 : Q 5) (h6 : Q 6) (h7 : Q 7) (h8 : Q 8) : Q f := by
 unfold fldOk at h
 have : f = 0 ∨ f = 1 ∨ f = 2 ∨ f = 3 ∨ f = 4 ∨ f = 5 ∨ f = 6 ∨ f = 7 ∨ f = 8 := by omega
 rcases this with rfl | rfl | rfl | rfl | rfl | rfl | rfl | rfl | rfl <;> assumption

def md (f : Int) : Int := if fldOk f then rd fP f else 0
theorem sMod (f : Int) : spec_Modulus.f f = some (md f) := by
 by_cases h : fldOk f
 · exact fld_cases (Q := fun f => spec_Modulus.f f = some (md f)) h rfl rfl rfl rfl rfl rfl rfl rfl rfl
 · unfold md
   rw [if_neg h]
   unfold fldOk at h
   simp only [spec_Modulus.f]
   rw [if_neg (by omega), if_neg (by omega), if_neg (by omega), if_neg (by omega), if_neg (by omega), if_neg (by omega), if_neg (by omega), if_neg (by omega), if_neg (by omega)]
theorem md_pos {f : Int} (h : fldOk f) : 17 ≤ md f ∧ md f ≤ 1004535809 := fld_cases (Q := fun f => 17 ≤ md f ∧ md f ≤ 1004535809) h (by decide) (by decide) (by decide) (by decide) (by decide) (by decide) (by decide) (by decide) (by decide)
theorem md_zero {f : Int} : md f = 0 ↔ ¬ fldOk f := by
 by_cases h : fldOk f
 · have := md_pos h
   simp [h]; omega
 · simp [md, h]

theorem iFld (f : Int) : impl_fieldOf.f f = some (if fldOk f then (rd fP f, rd fG f, rd fT f, true) else (0, 0, 0, false)) := by
 by_cases h : fldOk f
 · exact fld_cases (Q := fun f => impl_fieldOf.f f = some (if fldOk f then (rd fP f, rd fG f, rd fT f, true) else (0, 0, 0, false))) h rfl rfl rfl rfl rfl rfl rfl rfl rfl
 · rw [if_neg h]
   unfold fldOk at h
   show Go.Proofs.Ytbojabmpcfclhaa.Fld.impl_fieldOf.f f = _
   unfold Go.Proofs.Ytbojabmpcfclhaa.Fld.impl_fieldOf.f
   by_cases h1 : f < 0
   · rw [if_pos h1]
   · rw [if_neg h1, if_pos (by omega)]

theorem iMul {p g t a b : Int} (hp : 2 ≤ p) (hp2 : p ≤ 2147483648) (ha : 0 ≤ a) (ha' : a < p) (hb : 0 ≤ b) (hb' : b < p) : impl_field_mul.f p g t a b = some (a * b % p) := by
 have h0 : 0 ≤ a * b := Int.mul_nonneg ha hb
 have h1 : a * b ≤ 2147483648 * 2147483648 := Int.mul_le_mul (by omega) (by omega) hb (by omega)
 simp only [impl_field_mul.f]
 rw [if_neg (by omega), w64 (by omega) (by omega), Int.tmod_eq_emod_of_nonneg h0]

theorem iPow_l {p g t : Int} (hp : 2 ≤ p) (hp2 : p ≤ 2147483648) (e : Nat) : ∀ (a out : Int), e < 4611686018427387904 → 0 ≤ a → a < p → 0 ≤ out → out < p →
 Ev (fun k => impl_field_power.l0 k a (e : Int) out p g t) (out * a ^ e % p) := by
 induction e using Nat.strongRecOn with
 | _ e ih =>
  intro a out he ha ha' ho ho'
  by_cases h0 : e = 0
  · subst h0
    refine ev_now fun k => ?_
    simp only [impl_field_power.l0]
    rw [if_neg (by omega), show a ^ 0 = 1 by grind, Int.mul_one, Int.emod_eq_of_lt ho ho']
  · have m0 : ∀ z : Int, 0 ≤ z % p := fun z => Int.emod_nonneg _ (by omega)
    have m1 : ∀ z : Int, z % p < p := fun z => Int.emod_lt_of_pos _ (by omega)
    have ht : Int.tmod (e : Int) 2 = ((e % 2 : Nat) : Int) := by rw [Int.tmod_eq_emod_of_nonneg (by omega)]; omega
    have hd : wrap64 (Int.tdiv (e : Int) 2) = ((e / 2 : Nat) : Int) := by rw [Int.tdiv_eq_ediv_of_nonneg (by omega), w64 (by omega) (by omega)]; omega
    by_cases h1 : e % 2 = 1
    · rw [← pw_odd h1]
      refine Ev.step (fun k => ?_) (ih (e / 2) (by omega) (a * a % p) (out * a % p) (by omega) (m0 _) (m1 _) (m0 _) (m1 _))
      simp only [impl_field_power.l0, iMul hp hp2 ho ho' ha ha', iMul hp hp2 ha ha' ha ha', Option.bind_some, ht, hd]
      rw [if_pos (by omega), if_pos (by omega)]
    · rw [← pw_even h1]
      refine Ev.step (fun k => ?_) (ih (e / 2) (by omega) (a * a % p) out (by omega) (m0 _) (m1 _) ho ho')
      simp only [impl_field_power.l0, iMul hp hp2 ha ha' ha ha', Option.bind_some, ht, hd]
      rw [if_pos (by omega), if_neg (by omega)]
theorem iPow_ev {p g t a : Int} (hp : 2 ≤ p) (hp2 : p ≤ 2147483648) (e : Nat) (he : e < 4611686018427387904) (ha : 0 ≤ a) (ha' : a < p) : Ev (fun k => impl_field_power.f k p g t a (e : Int)) (a ^ e % p) := by
 have := iPow_l (g := g) (t := t) hp hp2 e a 1 he ha ha' (by omega) (by omega)
 rw [Int.one_mul] at this
 exact Ev.congr (fun k => rfl) this

theorem md_range {f : Int} (h : fldOk f) (x : Int) : 0 ≤ x % md f ∧ x % md f < md f := by
 have hm := md_pos h
 exact ⟨Int.emod_nonneg _ (by omega), Int.emod_lt_of_pos _ (by omega)⟩

theorem sReduce (f x : Int) : spec_Reduce.f f x = some (if fldOk f then x % md f else -1) := by
 simp only [spec_Reduce.f, sMod, Option.bind_some, md_zero]
 by_cases h : fldOk f
 · have hm := md_pos h
   have hb := tmod_bounds (x := x) (p := md f) (by omega)
   rw [if_neg (fun hh => hh h), if_pos h]
   by_cases hn : Int.tmod x (md f) < 0
   · rw [if_pos hn, w64 (by omega) (by omega), red_lt (by omega) hn]
   · rw [if_neg hn, red_ge (by omega) hn]
 · rw [if_pos h, if_neg h]

theorem sPow_l {p : Int} (hp : 2 ≤ p) (hp2 : p ≤ 2147483648) (e : Nat) : ∀ (a out : Int), e < 4611686018427387904 → 0 ≤ a → a < p → 0 ≤ out → out < p →
 Ev (fun k => spec_Power.l0 k p a (e : Int) out) (out * a ^ e % p) := by
 induction e using Nat.strongRecOn with
 | _ e ih =>
  intro a out he ha ha' ho ho'
  by_cases h0 : e = 0
  · subst h0
    refine ev_now fun k => ?_
    simp only [spec_Power.l0]
    rw [if_neg (by omega), show a ^ 0 = 1 by grind, Int.mul_one, Int.emod_eq_of_lt ho ho']
  · have m0 : ∀ z : Int, 0 ≤ z % p := fun z => Int.emod_nonneg _ (by omega)
    have m1 : ∀ z : Int, z % p < p := fun z => Int.emod_lt_of_pos _ (by omega)
    have ht : Int.tmod (e : Int) 2 = ((e % 2 : Nat) : Int) := by rw [Int.tmod_eq_emod_of_nonneg (by omega)]; omega
    have hd : wrap64 (Int.tdiv (e : Int) 2) = ((e / 2 : Nat) : Int) := by rw [Int.tdiv_eq_ediv_of_nonneg (by omega), w64 (by omega) (by omega)]; omega
    have q0 : ∀ x y : Int, 0 ≤ x → x < p → 0 ≤ y → y < p → Int.tmod (wrap64 (x * y)) p = x * y % p := fun x y hx hx' hy hy' => by
     have h0 : 0 ≤ x * y := Int.mul_nonneg hx hy
     have h1 : x * y ≤ 2147483648 * 2147483648 := Int.mul_le_mul (by omega) (by omega) hy (by omega)
     rw [w64 (by omega) (by omega), Int.tmod_eq_emod_of_nonneg h0]
    by_cases h1 : e % 2 = 1
    · rw [← pw_odd h1]
      refine Ev.step (fun k => ?_) (ih (e / 2) (by omega) (a * a % p) (out * a % p) (by omega) (m0 _) (m1 _) (m0 _) (m1 _))
      simp only [spec_Power.l0, ht, hd, q0 out a ho ho' ha ha', q0 a a ha ha' ha ha']
      rw [if_pos (by omega), if_pos (by omega), if_neg (by omega)]
    · rw [← pw_even h1]
      refine Ev.step (fun k => ?_) (ih (e / 2) (by omega) (a * a % p) out (by omega) (m0 _) (m1 _) ho ho')
      simp only [spec_Power.l0, ht, hd, q0 a a ha ha' ha ha']
      rw [if_pos (by omega), if_neg (by omega), if_neg (by omega)]
def expOf (p e : Int) : Nat := (e % (p - 1)).toNat
theorem sPow_ev {f : Int} (h : fldOk f) (a e : Int) (hx : a % md f ≠ 0) : Ev (fun k => spec_Power.f k f a e) ((a % md f) ^ expOf (md f) e % md f) := by
 have hm := md_pos h
 have ha := md_range h a
 have hb := tmod_bounds (x := e) (p := md f - 1) (by omega)
 have he : 0 ≤ e % (md f - 1) ∧ e % (md f - 1) < md f - 1 := ⟨Int.emod_nonneg _ (by omega), Int.emod_lt_of_pos _ (by omega)⟩
 have key := sPow_l (p := md f) (by omega) (by omega) (expOf (md f) e) (a % md f) 1 (by unfold expOf; omega) ha.1 ha.2 (by omega) (by omega)
 rw [Int.one_mul, show ((expOf (md f) e : Nat) : Int) = e % (md f - 1) by unfold expOf; omega] at key
 refine Ev.congr (fun k => ?_) (Ev.step (g := fun k => spec_Power.j0 k (md f) (a % md f) (e % (md f - 1))) (fun k => rfl) key)
 simp only [spec_Power.f, sMod, sReduce, Option.bind_some, md_zero]
 rw [if_neg (fun hh => hh h), if_pos h, if_neg hx, w64 (x := md f - 1) (by omega) (by omega), if_neg (by omega)]
 by_cases hn : Int.tmod e (md f - 1) < 0
 · rw [if_pos hn, w64 (x := Int.tmod e (md f - 1) + md f) (by omega) (by omega), w64 (by omega) (by omega), ← red_lt (by omega) hn, show Int.tmod e (md f - 1) + md f - 1 = Int.tmod e (md f - 1) + (md f - 1) by omega]
 · rw [if_neg hn, red_ge (by omega) hn]

def elemB (p : Int) (l : List Int) : Bool := allF l.length 0 (fun j => decide (0 ≤ rd l (j : Int) ∧ rd l (j : Int) < p))
theorem elemB_iff (p : Int) (l : List Int) : elemB p l = true ↔ ∀ x ∈ l, 0 ≤ x ∧ x < p := by
 unfold elemB
 rw [allF_iff]
 constructor
 · intro h x hx
   obtain ⟨j, hj, rfl⟩ := List.getElem_of_mem hx
   have := h j (by omega) (by omega)
   rw [decide_eq_true_eq, rd_eq hj] at this
   exact this
 · intro h j _ hj
   rw [decide_eq_true_eq, rd_eq (by omega)]
   exact h _ (List.getElem_mem _)

theorem iElem_l (p g t : Int) (l : List Int) (hn : l.length ≤ 1048576) : ∀ (d i : Nat), l.length - i = d → i ≤ l.length → Ev (fun k => impl_field_areElements.l0 k l (l.length : Int) (i : Int) p g t) (allF d i (fun j => decide (0 ≤ rd l (j : Int) ∧ rd l (j : Int) < p))) := by
 intro d
 induction d with
 | zero =>
  intro i h hi
  refine ev_now fun k => ?_
  simp only [impl_field_areElements.l0]
  rw [if_neg (by omega)]; rfl
 | succ d ih =>
  intro i h hi
  rw [allF]
  by_cases hq : 0 ≤ rd l (i : Int) ∧ rd l (i : Int) < p
  · rw [decide_eq_true hq, Bool.true_and]
    refine Ev.step (fun k => ?_) (ih (i + 1) (by omega) (by omega))
    simp only [impl_field_areElements.l0]
    rw [if_pos (by omega), if_pos (by omega), if_pos (by omega), if_neg (by omega), if_neg (by omega), wsucc (by omega)]
  · rw [decide_eq_false hq, Bool.false_and]
    refine ev_now fun k => ?_
    simp only [impl_field_areElements.l0]
    rw [if_pos (by omega), if_pos (by omega), if_pos (by omega)]
    by_cases h1 : rd l (i : Int) < 0
    · rw [if_pos h1]
    · rw [if_neg h1, if_pos (by omega)]
theorem iElem_ev (p g t : Int) (l : List Int) (hn : l.length ≤ 1048576) : Ev (fun k => impl_field_areElements.f k p g t l) (elemB p l) := by
 refine Ev.congr (fun k => ?_) (iElem_l p g t l hn l.length 0 (by omega) (by omega))
 simp [impl_field_areElements.f]

def two (f : Int) : Int := if fldOk f then rd fT f else -1

theorem sTwo_ev (f : Int) : Ev (fun k => spec_TwoPower.f k f) (two f) := by
 by_cases h : fldOk f
 · exact fld_cases (Q := fun f => Ev (fun k => spec_TwoPower.f k f) (two f)) h (Ev.of (fun k => spec_TwoPower.mono _ k) (k := 40) (by decide +kernel)) (Ev.of (fun k => spec_TwoPower.mono _ k) (k := 40) (by decide +kernel)) (Ev.of (fun k => spec_TwoPower.mono _ k) (k := 40) (by decide +kernel)) (Ev.of (fun k => spec_TwoPower.mono _ k) (k := 40) (by decide +kernel)) (Ev.of (fun k => spec_TwoPower.mono _ k) (k := 40) (by decide +kernel)) (Ev.of (fun k => spec_TwoPower.mono _ k) (k := 40) (by decide +kernel)) (Ev.of (fun k => spec_TwoPower.mono _ k) (k := 40) (by decide +kernel)) (Ev.of (fun k => spec_TwoPower.mono _ k) (k := 40) (by decide +kernel)) (Ev.of (fun k => spec_TwoPower.mono _ k) (k := 40) (by decide +kernel))
 · unfold two
   rw [if_neg h]
   refine ev_some fun k => ?_
   simp only [spec_TwoPower.f, sMod, Option.bind_some, md_zero, h, not_false_eq_true, if_true]

def logP (f k : Int) : Prop := fldOk f ∧ 0 ≤ k ∧ k ≤ 9 ∧ k ≤ rd fT f
instance logP_dec (f k : Int) : Decidable (logP f k) := by unfold logP; infer_instance

theorem sLog_ev (f k0 : Int) : Ev (fun k => spec_l09Log.f k f k0) (decide (logP f k0)) := by
 obtain ⟨n, e⟩ := evs1 (sTwo_ev f)
 refine ⟨n, fun k hk => ?_⟩
 obtain ⟨j, rfl⟩ : ∃ j, k = n + j := ⟨k - n, by omega⟩
 simp only [spec_l09Log.f, sMod, in_eq, e, Option.bind_some, decide_eq_true_eq]
 by_cases h : fldOk f
 · have hm := md_pos h
   rw [if_pos (by omega)]
   by_cases h1 : 0 ≤ k0 ∧ k0 ≤ 9
   · rw [if_pos h1]
     exact congrArg some (decide_eq_decide.2 (by unfold two logP; simp [h, h1]))
   · rw [if_neg h1, decide_eq_false (by unfold logP; omega)]
 · rw [if_neg (by have := md_zero.2 h; omega), decide_eq_false (by unfold logP; simp [h])]

def cutL (lv most en : Int) : Nat → Int → List S36
 | 0, _ => []
 | d + 1, fr => if fr < en then ⟨lv, fr, fr + (if most < en - fr then most else en - fr)⟩ :: cutL lv most en d (fr + (if most < en - fr then most else en - fr)) else []
theorem cutL_more {lv most en : Int} (hm : 1 ≤ most) : ∀ (d e : Nat) (fr : Int), (en - fr).toNat ≤ d → (en - fr).toNat ≤ e → cutL lv most en d fr = cutL lv most en e fr := by
 intro d
 induction d with
 | zero =>
  intro e fr h1 h2
  cases e with
  | zero => rfl
  | succ e => rw [cutL, cutL, if_neg (by omega)]
 | succ d ih =>
  intro e fr h1 h2
  cases e with
  | zero => rw [cutL, cutL, if_neg (by omega)]
  | succ e =>
   rw [cutL, cutL]
   by_cases h : fr < en
   · rw [if_pos h, if_pos h]
     congr 1
     exact ih _ _ (by split <;> omega) (by split <;> omega)
   · rw [if_neg h, if_neg h]
def cut (lv most fr en : Int) : List S36 := cutL lv most en (en - fr).toNat fr
theorem cut_no {lv most fr en : Int} (h : ¬ fr < en) : cut lv most fr en = [] := by
 unfold cut
 cases (en - fr).toNat with
 | zero => rfl
 | succ d => rw [cutL, if_neg h]
theorem cut_yes {lv most fr en : Int} (hm : 1 ≤ most) (h : fr < en) : cut lv most fr en = ⟨lv, fr, fr + (if most < en - fr then most else en - fr)⟩ :: cut lv most (fr + (if most < en - fr then most else en - fr)) en := by
 unfold cut
 obtain ⟨d, hd⟩ : ∃ d, (en - fr).toNat = d + 1 := ⟨(en - fr).toNat - 1, by omega⟩
 rw [hd, cutL, if_pos h]
 congr 1
 exact cutL_more hm _ _ _ (by split <;> omega) (by split <;> omega)
theorem cut_len {lv most en : Int} (hm : 1 ≤ most) : ∀ (d : Nat) (fr : Int), (cutL lv most en d fr).length ≤ (en - fr).toNat := by
 intro d
 induction d with
 | zero => intro fr; simp [cutL]
 | succ d ih =>
  intro fr
  rw [cutL]
  by_cases h : fr < en
  · rw [if_pos h]
    have := ih (fr + (if most < en - fr then most else en - fr))
    rw [List.length_cons]
    split at this <;> split <;> omega
  · rw [if_neg h]; simp

theorem sCut_l {lv most en fr0 : Int} (hm : 1 ≤ most) (hto : en ≤ 1048576) : ∀ (d : Nat) (acc : List S36) (fr : Int), (en - fr).toNat ≤ d → 0 ≤ fr → acc.length ≤ 601 →
 Ev (fun k => spec_l09Cut.l0 k acc most fr lv fr0 en) ((acc ++ cut lv most fr en).take 601) := by
 intro d
 induction d with
 | zero =>
  intro acc fr h h0 ha
  refine Ev.step (f := fun k => spec_l09Cut.j1 k acc most fr false lv fr0 en) (fun k => ?_) (ev_now fun k => ?_)
  · simp only [spec_l09Cut.l0]
    rw [if_neg (by omega)]
  · simp only [spec_l09Cut.j1, Bool.false_eq_true, if_false]
    rw [cut_no (by omega), List.append_nil, List.take_of_length_le ha]
 | succ d ih =>
  intro acc fr h h0 ha
  by_cases hlt : fr < en
  · by_cases hl : acc.length ≤ 600
    · refine Ev.step (f := fun k => spec_l09Cut.j1 k acc most fr true lv fr0 en) (fun k => ?_) ?_
      · simp only [spec_l09Cut.l0]
        rw [if_pos hlt, decide_eq_true (by omega)]
      · rw [cut_yes hm hlt]
        by_cases hw : most < en - fr
        · simp only [if_pos hw]
          have := ih (acc ++ [⟨lv, fr, fr + most⟩]) (fr + most) (by omega) (by omega) (by simp; omega)
          refine Ev.step (fun k => ?_) (by simpa using this)
          simp only [spec_l09Cut.j1, if_true]
          rw [w64 (x := en - fr) (by omega) (by omega), if_pos hw, if_pos (by omega), w64 (x := fr + most) (by omega) (by omega)]
        · simp only [if_neg hw]
          have := ih (acc ++ [⟨lv, fr, en⟩]) en (by omega) (by omega) (by simp; omega)
          rw [show fr + (en - fr) = en by omega]
          refine Ev.step (fun k => ?_) (by simpa using this)
          simp only [spec_l09Cut.j1, if_true]
          rw [w64 (x := en - fr) (by omega) (by omega), if_neg hw, if_pos (by omega)]
    · refine Ev.step (f := fun k => spec_l09Cut.j1 k acc most fr false lv fr0 en) (fun k => ?_) (ev_now fun k => ?_)
      · simp only [spec_l09Cut.l0]
        rw [if_pos hlt, decide_eq_false (by omega)]
      · simp only [spec_l09Cut.j1, Bool.false_eq_true, if_false]
        rw [List.take_append_of_le_length (by omega), List.take_of_length_le ha]
  · refine Ev.step (f := fun k => spec_l09Cut.j1 k acc most fr false lv fr0 en) (fun k => ?_) (ev_now fun k => ?_)
    · simp only [spec_l09Cut.l0]
      rw [if_neg hlt]
    · simp only [spec_l09Cut.j1, Bool.false_eq_true, if_false]
      rw [cut_no hlt, List.append_nil, List.take_of_length_le ha]
theorem sCut_ev {lv most fr en : Int} (hm : 1 ≤ most) (hto : en ≤ 1048576) (h0 : 0 ≤ fr) (acc : List S36) (ha : acc.length ≤ 601) :
 Ev (fun k => spec_l09Cut.f k acc lv fr en most) ((acc ++ cut lv most fr en).take 601) :=
 Ev.congr (fun k => rfl) (sCut_l (fr0 := fr) hm hto (en - fr).toNat acc fr (Nat.le_refl _) h0 ha)

theorem iRanges_l {lv most en : Int} (hm : 1 ≤ most) (hto : en ≤ 1048576) : ∀ (d : Nat) (acc : List S36) (fr : Int), (en - fr).toNat ≤ d → 0 ≤ fr → acc.length + d ≤ 4194304 →
 Ev (fun k => impl_ranges.l0 k most acc lv fr en) (acc ++ cut lv most fr en) := by
 intro d
 induction d with
 | zero =>
  intro acc fr h h0 ha
  refine ev_now fun k => ?_
  simp only [impl_ranges.l0]
  rw [if_neg (by omega), cut_no (by omega), List.append_nil]
 | succ d ih =>
  intro acc fr h h0 ha
  by_cases hlt : fr < en
  · rw [cut_yes hm hlt]
    have := ih (acc ++ [⟨lv, fr, fr + (if most < en - fr then most else en - fr)⟩]) (fr + (if most < en - fr then most else en - fr)) (by split <;> omega) (by split <;> omega) (by simp; omega)
    refine Ev.step (fun k => ?_) (by simpa using this)
    simp only [impl_ranges.l0]
    rw [if_pos hlt, if_pos (by omega), w64 (x := en - fr) (by omega) (by omega), mn_eq, w64 (x := fr + _) (by split <;> omega) (by split <;> omega)]
  · refine ev_now fun k => ?_
    simp only [impl_ranges.l0]
    rw [if_neg hlt, cut_no hlt, List.append_nil]
theorem iRanges_ev {lv most fr en : Int} (hm : 1 ≤ most) (hto : en ≤ 1048576) (h0 : 0 ≤ fr) : Ev (fun k => impl_ranges.f k lv fr en most) (cut lv most fr en) :=
 by
  have := iRanges_l (lv := lv) hm hto (en - fr).toNat [] fr (Nat.le_refl _) h0 (by simp; omega)
  rw [List.nil_append] at this
  exact Ev.congr (fun k => rfl) this

def halfK (k : Int) : Int := 2 ^ (k.toNat - 1)
theorem shl_half {k : Int} (h1 : 1 ≤ k) (h9 : k ≤ 9) : shl .i64 1 (wrap64 (k - 1)) = halfK k ∧ wrap64 (Int.tdiv (shl .i64 1 (IntKind.u64.wrap k)) 2) = halfK k ∧ 1 ≤ halfK k ∧ halfK k ≤ 256 := by
 have : k = 1 ∨ k = 2 ∨ k = 3 ∨ k = 4 ∨ k = 5 ∨ k = 6 ∨ k = 7 ∨ k = 8 ∨ k = 9 := by omega
 rcases this with rfl | rfl | rfl | rfl | rfl | rfl | rfl | rfl | rfl <;> decide +kernel

def levels (k most : Int) : Nat → Nat → List S36
 | 0, _ => []
 | d + 1, i => cut (i : Int) most 0 (halfK k) ++ levels k most d (i + 1)
def planP (f k most : Int) : Int × Int × List S36 × Bool :=
 if logP f k ∧ 1 ≤ most ∧ (levels k most k.toNat 0).length ≤ 600 then (f, k, levels k most k.toNat 0, true) else (0, 0, [], false)

theorem iPlan_l {f k most : Int} (h0 : 0 ≤ k) (h9 : k ≤ 9) (hm : 1 ≤ most) : ∀ (d i : Nat) (acc : List S36), k.toNat - i = d → i ≤ k.toNat → acc.length + 256 * d ≤ 1048576 →
 Ev (fun n => impl_MakePlan.l0 n k most k (i : Int) f k acc) (if (acc ++ levels k most d i).length > 600 then (0, 0, [], false) else (f, k, acc ++ levels k most d i, true)) := by
 intro d
 induction d with
 | zero =>
  intro i acc h hi ha
  refine ev_now fun n => ?_
  simp only [impl_MakePlan.l0, levels, List.append_nil]
  rw [if_neg (by omega)]
  by_cases hl : acc.length > 600
  · rw [if_pos (by omega), if_pos hl]
  · rw [if_neg (by omega), if_neg hl]
 | succ d ih =>
  intro i acc h hi ha
  have hh := shl_half (k := k) (by omega) h9
  have c := cut_len (lv := (i : Int)) (en := halfK k) hm (halfK k - 0).toNat 0
  have c' : (cut (i : Int) most 0 (halfK k)).length ≤ 256 := by unfold cut; omega
  have key := ih (i + 1) (acc ++ cut (i : Int) most 0 (halfK k)) (by omega) (by omega) (by rw [List.length_append]; omega)
  rw [List.append_assoc] at key
  rw [levels]
  refine Ev.step (fun n => ?_) (Ev.bind (iRanges_ev (lv := (i : Int)) (fr := 0) (en := halfK k) hm (by omega) (by omega)) (f := fun n t => if acc.length + t.length < 5864062014805 then impl_MakePlan.l0 n k most k ((i + 1 : Nat) : Int) f k (acc ++ t) else none) ?_)
  · simp only [impl_MakePlan.l0]
    rw [if_pos (by omega), if_pos (by rw [w64 (by omega) (by omega)]; omega), hh.1, wsucc (by omega)]
  · exact Ev.congr (fun n => if_pos (by omega)) key
theorem iPlan_ev (f k most : Int) : Ev (fun n => impl_MakePlan.f n f k most) (planP f k most) := by
 have no : Ev (fun n => impl_MakePlan.j0 n f k most true) (0, 0, [], false) := ev_now fun n => by simp [impl_MakePlan.j0]
 unfold planP
 by_cases h : logP f k
 · have hl := h
   unfold logP at hl
   have hmn : ¬ k > mn 9 (rd fT f) := by rw [mn_eq]; split <;> omega
   by_cases hm : 1 ≤ most
   · have key := iPlan_l (f := f) hl.2.1 hl.2.2.1 hm k.toNat 0 [] (by omega) (by omega) (by simp; omega)
     rw [List.nil_append] at key
     have key2 : Ev (fun n => impl_MakePlan.j0 n f k most false) (if logP f k ∧ 1 ≤ most ∧ (levels k most k.toNat 0).length ≤ 600 then (f, k, levels k most k.toNat 0, true) else (0, 0, [], false)) := by
      refine Ev.step (f := fun n => impl_MakePlan.l0 n k most k ((0 : Nat) : Int) f k []) (fun n => by simp [impl_MakePlan.j0]) ?_
      by_cases hx : (levels k most k.toNat 0).length ≤ 600
      · rw [if_neg (by omega)] at key
        rw [if_pos ⟨h, hm, hx⟩]
        exact key
      · rw [if_pos (by omega)] at key
        rw [if_neg (fun hh => hx hh.2.2)]
        exact key
     refine Ev.congr (fun n => ?_) key2
     simp only [impl_MakePlan.f, iFld, if_pos hl.1, Option.bind_some, if_true]
     rw [if_neg (by omega), if_neg hmn, decide_eq_false (by omega)]
   · rw [if_neg (fun hh => hm hh.2.1)]
     refine Ev.congr (fun n => ?_) no
     simp only [impl_MakePlan.f, iFld, if_pos hl.1, Option.bind_some, if_true]
     rw [if_neg (by omega), if_neg hmn, decide_eq_true (by omega)]
 · rw [if_neg (fun hh => h hh.1)]
   refine Ev.congr (fun n => ?_) no
   simp only [impl_MakePlan.f, iFld, Option.bind_some]
   by_cases hf : fldOk f
   · simp only [if_pos hf, if_true]
     by_cases h1 : k < 0
     · rw [if_pos h1]
     · rw [if_neg h1, if_pos]
       rw [mn_eq]
       have : ¬ (k ≤ 9 ∧ k ≤ rd fT f) := fun hh => h ⟨hf, by omega, hh.1, hh.2⟩
       split <;> omega
   · simp only [if_neg hf, Bool.false_eq_true, if_false]
def dAt (l : List Int) (i : Int) : Prop := 0 ≤ i ∧ i ≤ l.length
theorem drawByte (l : List Int) (hn : l.length ≤ 140737488355328) (i h : Int) (hi : dAt l i) : ∃ b i' h', spec_l01Byte.f l i h = some (b, i', h') ∧ (0 ≤ b ∧ b ≤ 255) ∧ dAt l i' := by
 unfold dAt at hi ⊢
 simp only [spec_l01Byte.f]
 by_cases hl : i < (l.length : Int)
 · rw [if_pos hl, if_pos hi.1]
   exact ⟨_, _, _, rfl, bits_and _ 255 (by decide), by rw [w64 (by omega) (by omega)]; omega⟩
 · rw [if_neg hl]
   exact ⟨_, _, _, rfl, bits_and _ 255 (by decide), hi⟩

theorem drawBelow (l : List Int) (hn : l.length ≤ 140737488355328) (i h : Int) (hi : dAt l i) (m : Int) : ∃ b i' h', spec_l01Below.f l i h m = some (b, i', h') ∧ (0 ≤ b ∧ (b < m ∨ b = 0)) ∧ dAt l i' := by
 simp only [spec_l01Below.f]
 by_cases h0 : m ≤ 0
 · rw [if_pos h0]
   exact ⟨_, _, _, rfl, by omega, hi⟩
 · rw [if_neg h0]
   obtain ⟨b1, i1, h1, e1, r1, d1⟩ := drawByte l hn i h hi
   rw [e1]
   by_cases hm : m ≤ 256
   · rw [if_pos hm, Option.bind_some, if_neg (by omega)]
     refine ⟨_, _, _, rfl, ?_, d1⟩
     simp only
     rw [Int.tmod_eq_emod_of_nonneg (by omega)]
     exact ⟨Int.emod_nonneg _ (by omega), Or.inl (Int.emod_lt_of_pos _ (by omega))⟩
   · rw [if_neg hm, Option.bind_some]
     obtain ⟨b2, i2, h2, e2, r2, d2⟩ := drawByte l hn i1 h1 d1
     rw [e2, Option.bind_some]
     obtain ⟨b3, i3, h3, e3, r3, d3⟩ := drawByte l hn i2 h2 d2
     rw [e3, Option.bind_some, if_neg (by omega)]
     refine ⟨_, _, _, rfl, ?_, d3⟩
     simp only
     rw [w64 (x := b1 * 65536) (by omega) (by omega), w64 (x := b2 * 256) (by omega) (by omega), w64 (x := b1 * 65536 + b2 * 256) (by omega) (by omega), w64 (by omega) (by omega), Int.tmod_eq_emod_of_nonneg (by omega)]
     exact ⟨Int.emod_nonneg _ (by omega), Or.inl (Int.emod_lt_of_pos _ (by omega))⟩

theorem drawPickInt (l : List Int) (hn : l.length ≤ 140737488355328) (i h : Int) (hi : dAt l i) (xs : List Int) (hx : 0 < xs.length) : ∃ b i' h', spec_l01PickInt.f l i h xs = some (b, i', h') ∧ b ∈ xs ∧ dAt l i' := by
 simp only [spec_l01PickInt.f]
 obtain ⟨b1, i1, h1, e1, r1, d1⟩ := drawBelow l hn i h hi (xs.length : Int)
 rw [e1, Option.bind_some, if_pos r1.1, if_pos (by simp only; omega)]
 refine ⟨_, _, _, rfl, ?_, d1⟩
 simp only
 rw [show b1 = ((b1.toNat : Nat) : Int) by omega]
 exact rd_mem (by omega)

theorem drawNew_l (l : List Int) (hn : l.length ≤ 140737488355328) : ∀ (d i : Nat) (h : Int), 4000 - i = d → ∃ h', Ev (fun k => spec_l01New.l0 k l h (i : Int)) (l, 0, h') := by
 intro d
 induction d with
 | zero =>
  intro i h hd
  refine ⟨h, ev_now fun k => ?_⟩
  simp only [spec_l01New.l0]
  split
  · rw [if_neg (by omega)]
  · rfl
 | succ d ih =>
  intro i h hd
  by_cases hl : (i : Int) < (l.length : Int)
  · obtain ⟨h', e⟩ := ih (i + 1) (Go.bits .and .i64 (wrap64 ((wrap64 ((wrap64 (h * 149)) + (wrap64 (rd l i)))) + 11)) 1073741823) (by omega)
    refine ⟨h', Ev.step (fun k => ?_) e⟩
    simp only [spec_l01New.l0]
    rw [if_pos hl, if_pos (by omega), if_pos (by omega), wsucc (by omega)]
  · refine ⟨h, ev_now fun k => ?_⟩
    simp only [spec_l01New.l0]
    rw [if_neg hl]
theorem drawNew (l : List Int) (hn : l.length ≤ 140737488355328) : ∃ h', Ev (fun k => spec_l01New.f k l) (l, 0, h') := by
 obtain ⟨h', e⟩ := drawNew_l l hn 4000 0 (wrap64 (710710 + (l.length : Int))) (by omega)
 exact ⟨h', Ev.congr (fun k => rfl) e⟩
theorem dAt0 (l : List Int) : dAt l 0 := by unfold dAt; omega

theorem lawsAtB (l : List Int) (hb : isB l) (hn : l.length ≤ 1048576) (n : Nat) (h : n ≤ 1000) : ∃ v, laws_at.f l (n : Int) = some v ∧ 0 ≤ v ∧ v ≤ 255 := by
 simp only [laws_at.f]
 by_cases hl : (n : Int) < (l.length : Int)
 · have hc := isB_at hb (show n < l.length by omega)
   rw [if_pos hl, if_pos (by omega), rd_eq (by omega), w64 (by omega) (by omega)]
   exact ⟨_, rfl, hc⟩
 · rw [if_neg hl, w64 (x := (n : Int) * 13) (by omega) (by omega), w64 (x := (l.length : Int) * 5) (by omega) (by omega), w64 (by omega) (by omega), Int.tmod_eq_emod_of_nonneg (by omega)]
   exact ⟨_, rfl, by omega, by omega⟩
theorem shl_pow {i : Nat} (h : i ≤ 10) : shl .i64 1 (i : Int) = 2 ^ i ∧ shl .i64 1 (IntKind.u64.wrap (i : Int)) = 2 ^ i ∧ 0 ≤ IntKind.u64.wrap (i : Int) := by
 rcases (show i = 0 ∨ i = 1 ∨ i = 2 ∨ i = 3 ∨ i = 4 ∨ i = 5 ∨ i = 6 ∨ i = 7 ∨ i = 8 ∨ i = 9 ∨ i = 10 by omega) with rfl | rfl | rfl | rfl | rfl | rfl | rfl | rfl | rfl | rfl | rfl <;> decide +kernel

theorem sLogOf_l (n : Int) : ∀ (d i : Nat), i + d = 10 → Ev (fun k => spec_LogOf.l0 k n (i : Int)) (logF d i n) := by
 intro d
 induction d with
 | zero =>
  intro i h
  refine ev_now fun k => ?_
  simp only [spec_LogOf.l0]
  rw [if_neg (by omega)]; rfl
 | succ d ih =>
  intro i h
  have hs := shl_pow (i := i) (by omega)
  rw [logF]
  by_cases hn : n = 2 ^ i
  · rw [if_pos hn]
    refine ev_now fun k => ?_
    simp only [spec_LogOf.l0, hs.2.1]
    rw [if_pos (by omega), if_pos hs.2.2, if_pos hn]
  · rw [if_neg hn]
    refine Ev.step (fun k => ?_) (ih (i + 1) (by omega))
    simp only [spec_LogOf.l0, hs.2.1]
    rw [if_pos (by omega), if_pos hs.2.2, if_neg hn, wsucc (by omega)]
theorem sLogOf_ev (n : Int) : Ev (fun k => spec_LogOf.f k n) (logB n) := Ev.congr (fun k => rfl) (sLogOf_l n 10 0 rfl)

theorem iLogOf_l (n : Int) : ∀ (d i : Nat), i + d = 10 → Ev (fun k => impl_logOf.l0 k n (i : Int)) (logF d i n) := by
 intro d
 induction d with
 | zero =>
  intro i h
  refine ev_now fun k => ?_
  simp only [impl_logOf.l0]
  rw [if_neg (by omega)]; rfl
 | succ d ih =>
  intro i h
  have hs := shl_pow (i := i) (by omega)
  rw [logF]
  by_cases hn : n = 2 ^ i
  · rw [if_pos hn]
    refine ev_now fun k => ?_
    simp only [impl_logOf.l0, hs.1]
    rw [if_pos (by omega), if_pos (by omega), if_pos hn]
  · rw [if_neg hn]
    refine Ev.step (fun k => ?_) (ih (i + 1) (by omega))
    simp only [impl_logOf.l0, hs.1]
    rw [if_pos (by omega), if_pos (by omega), if_neg hn, wsucc (by omega)]
theorem iLogOf_ev (n : Int) : Ev (fun k => impl_logOf.f k n) (logB n) := Ev.congr (fun k => rfl) (iLogOf_l n 10 0 rfl)

theorem sElem_l (p : Int) (hp : 2 ≤ p) (hp2 : p ≤ 2147483648) (l : List Int) (hn : l.length ≤ 1048576) : ∀ (d i : Nat), l.length - i = d → i ≤ l.length → Ev (fun k => spec_l03Elements.l0 k l p (i : Int)) (allF d i (fun j => decide (0 ≤ rd l (j : Int) ∧ rd l (j : Int) < p))) := by
 intro d
 induction d with
 | zero =>
  intro i h hi
  refine ev_now fun k => ?_
  simp only [spec_l03Elements.l0]
  rw [if_neg (by omega)]; rfl
 | succ d ih =>
  intro i h hi
  rw [allF]
  have hw : wrap64 (p - 1) = p - 1 := w64 (by omega) (by omega)
  by_cases hq : 0 ≤ rd l (i : Int) ∧ rd l (i : Int) < p
  · rw [decide_eq_true hq, Bool.true_and]
    refine Ev.step (fun k => ?_) (ih (i + 1) (by omega) (by omega))
    simp only [spec_l03Elements.l0, in_eq, hw, Option.bind_some, decide_eq_true_eq]
    rw [if_pos (by omega), if_pos (by omega), if_pos (by omega), wsucc (by omega)]
  · rw [decide_eq_false hq, Bool.false_and]
    refine ev_now fun k => ?_
    simp only [spec_l03Elements.l0, in_eq, hw, Option.bind_some, decide_eq_true_eq]
    rw [if_pos (by omega), if_pos (by omega), if_neg (by omega)]
theorem sElem_ev {f : Int} (h : fldOk f) (l : List Int) (hn : l.length ≤ 1048576) : Ev (fun k => spec_l03Elements.f k f l) (elemB (md f) l) := by
 have hm := md_pos h
 refine Ev.congr (fun k => ?_) (sElem_l (md f) (by omega) (by omega) l hn l.length 0 (by omega) (by omega))
 simp only [spec_l03Elements.f, sMod, Option.bind_some]
 rw [if_neg (by omega)]
 rfl

def mdP (f : Int) : Int := rd fP f
def vecP (f : Int) (v : List Int) : Prop := fldOk f ∧ 0 ≤ logB (v.length : Int) ∧ logB (v.length : Int) ≤ rd fT f ∧ elemB (mdP f) v = true
instance vecP_dec (f : Int) (v : List Int) : Decidable (vecP f v) := by unfold vecP; infer_instance
theorem vec_el {f : Int} {v : List Int} (h : vecP f v) : ∀ i, i < v.length → 0 ≤ rd v (i : Int) ∧ rd v (i : Int) < mdP f := fun i hi => (elemB_iff _ _).1 h.2.2.2 _ (rd_mem hi)
theorem md_eq {f : Int} (h : fldOk f) : mdP f = md f := by unfold mdP md; rw [if_pos h]
theorem sVec_ev (f : Int) (v : List Int) (hn : v.length ≤ 1048576) : Ev (fun k => spec_VectorOk.f k f v) (decide (vecP f v)) := by
 by_cases h : fldOk f
 · obtain ⟨n, e1, e2, e3⟩ := evs3 (sLogOf_ev (v.length : Int)) (sTwo_ev f) (sElem_ev h v hn)
   refine ⟨n, fun k hk => ?_⟩
   obtain ⟨j, rfl⟩ : ∃ j, k = n + j := ⟨k - n, by omega⟩
   have ht : two f = rd fT f := by unfold two; rw [if_pos h]
   simp only [spec_VectorOk.f, e1, e2, e3, ht, Option.bind_some]
   by_cases h1 : logB (v.length : Int) ≥ 0
   · rw [if_pos h1]
     by_cases h2 : logB (v.length : Int) ≤ rd fT f
     · rw [if_pos h2]
       by_cases h3 : elemB (md f) v = true
       · rw [h3, decide_eq_true (show vecP f v from ⟨h, h1, h2, by rw [md_eq h]; exact h3⟩)]
       · rw [Bool.not_eq_true] at h3
         rw [h3, decide_eq_false (show ¬ vecP f v from fun x => by have := x.2.2.2; rw [md_eq h, h3] at this; exact Bool.noConfusion this)]
     · rw [if_neg h2, decide_eq_false (show ¬ vecP f v from fun x => h2 x.2.2.1)]
   · rw [if_neg h1, decide_eq_false (show ¬ vecP f v from fun x => h1 x.2.1)]
 · obtain ⟨n, e1, e2⟩ := evs2 (sLogOf_ev (v.length : Int)) (sTwo_ev f)
   refine ⟨n, fun k hk => ?_⟩
   obtain ⟨j, rfl⟩ : ∃ j, k = n + j := ⟨k - n, by omega⟩
   have ht : two f = -1 := by unfold two; rw [if_neg h]
   simp only [spec_VectorOk.f, e1, e2, ht, Option.bind_some]
   rw [decide_eq_false (show ¬ vecP f v from fun x => h x.1)]
   by_cases h1 : logB (v.length : Int) ≥ 0
   · rw [if_pos h1, if_neg (by omega)]
   · rw [if_neg h1]

def vecsAt (f : Int) (vs : List (List Int)) (i : Nat) : Prop := 0 ≤ logB ((rd_L3 vs (i : Int)).length : Int) ∧ logB ((rd_L3 vs (i : Int)).length : Int) ≤ rd fT f ∧ elemB (mdP f) (rd_L3 vs (i : Int)) = true ∧ (rd_L3 vs (i : Int)).length = (rd_L3 vs 0).length
instance vecsAt_dec (f : Int) (vs : List (List Int)) (i : Nat) : Decidable (vecsAt f vs i) := by unfold vecsAt; infer_instance
theorem iVec_l (f g : Int) (vs : List (List Int)) (hn : vs.length ≤ 1048576) (hv : ∀ i : Nat, (rd_L3 vs (i : Int)).length ≤ 1048576) : ∀ (d i : Nat), vs.length - i = d → i ≤ vs.length →
 Ev (fun k => impl_vectorField.l0 k vs vs (vs.length : Int) (i : Int) (mdP f) g (rd fT f)) (if allF d i (fun j => decide (vecsAt f vs j)) = true then (mdP f, g, rd fT f, true) else (0, 0, 0, false)) := by
 intro d
 induction d with
 | zero =>
  intro i h hi
  refine ev_now fun k => ?_
  simp only [impl_vectorField.l0]
  rw [if_neg (by omega)]; rfl
 | succ d ih =>
  intro i h hi
  rw [allF]
  obtain ⟨n, e1, e2, e3⟩ := evs3 (iLogOf_ev ((rd_L3 vs (i : Int)).length : Int)) (iElem_ev (mdP f) g (rd fT f) (rd_L3 vs (i : Int)) (hv i)) (ih (i + 1) (by omega) (by omega))
  refine ⟨n + 1, fun k hk => ?_⟩
  obtain ⟨j, rfl⟩ : ∃ j, k = n + j + 1 := ⟨k - n - 1, by omega⟩
  simp only [impl_vectorField.l0, e1, e2, Option.bind_some]
  rw [if_pos (by omega), if_pos (by omega), if_pos (by omega)]
  by_cases h1 : logB ((rd_L3 vs (i : Int)).length : Int) < 0
  · rw [if_pos h1, decide_eq_false (show ¬ vecsAt f vs i from fun x => by have := x.1; omega), Bool.false_and]; rfl
  · rw [if_neg h1]
    by_cases h2 : logB ((rd_L3 vs (i : Int)).length : Int) > rd fT f
    · rw [if_pos h2, decide_eq_false (show ¬ vecsAt f vs i from fun x => by have := x.2.1; omega), Bool.false_and]; rfl
    · rw [if_neg h2]
      by_cases h3 : elemB (mdP f) (rd_L3 vs (i : Int)) = true
      · rw [if_pos h3, if_pos (by omega)]
        by_cases h4 : (rd_L3 vs (i : Int)).length = (rd_L3 vs 0).length
        · rw [if_pos (by omega), wsucc (by omega), e3 j, decide_eq_true (show vecsAt f vs i from ⟨by omega, by omega, h3, h4⟩), Bool.true_and]
        · rw [if_neg (by omega), decide_eq_false (show ¬ vecsAt f vs i from fun x => h4 x.2.2.2), Bool.false_and]; rfl
      · rw [if_neg h3, decide_eq_false (show ¬ vecsAt f vs i from fun x => h3 x.2.2.1), Bool.false_and]; rfl
theorem iVec1_ev (f : Int) (v : List Int) (hn : v.length ≤ 1048576) : Ev (fun k => impl_vectorField.f k f [v]) (if vecP f v then (mdP f, rd fG f, rd fT f, true) else (0, 0, 0, false)) := by
 by_cases h : fldOk f
 · have key := iVec_l f (rd fG f) [v] (by simp) (by
    intro i
    cases i with
    | zero => exact hn
    | succ i => simp [rd_L3]) 1 0 rfl (by simp)
   have e : (allF 1 0 (fun j => decide (vecsAt f [v] j)) = true) = vecP f v := by
    apply propext
    simp only [allF, Bool.and_true, decide_eq_true_eq]
    exact ⟨fun x => ⟨h, x.1, x.2.1, x.2.2.1⟩, fun x => ⟨x.2.1, x.2.2.1, x.2.2.2, rfl⟩⟩
   simp only [e] at key
   refine Ev.congr (fun k => ?_) key
   simp only [impl_vectorField.f, iFld, if_pos h, Option.bind_some, if_true]
   rfl
 · rw [if_neg (fun x => h x.1)]
   refine ev_some fun k => ?_
   simp only [impl_vectorField.f, iFld, if_neg h, Option.bind_some, Bool.false_eq_true, if_false]

def rt (f : Int) (s : Nat) : Int := rd fG f ^ ((mdP f - 1) / 2 ^ s).toNat % mdP f
theorem fG_range {f : Int} (h : fldOk f) : 3 ≤ rd fG f ∧ rd fG f < mdP f ∧ rd fG f ≤ 17 := fld_cases (Q := fun f => 3 ≤ rd fG f ∧ rd fG f < mdP f ∧ rd fG f ≤ 17) h (by decide) (by decide) (by decide) (by decide) (by decide) (by decide) (by decide) (by decide) (by decide)
theorem mdP_range {f : Int} (h : fldOk f) : 17 ≤ mdP f ∧ mdP f ≤ 1004535809 := fld_cases (Q := fun f => 17 ≤ mdP f ∧ mdP f ≤ 1004535809) h (by decide) (by decide) (by decide) (by decide) (by decide) (by decide) (by decide) (by decide) (by decide)
theorem fT_range {f : Int} (h : fldOk f) : 4 ≤ rd fT f ∧ rd fT f ≤ 26 := fld_cases (Q := fun f => 4 ≤ rd fT f ∧ rd fT f ≤ 26) h (by decide) (by decide) (by decide) (by decide) (by decide) (by decide) (by decide) (by decide) (by decide)
theorem rt_range {f : Int} (h : fldOk f) (s : Nat) : 0 ≤ rt f s ∧ rt f s < mdP f := by
 have hm := mdP_range h
 exact ⟨Int.emod_nonneg _ (by omega), Int.emod_lt_of_pos _ (by omega)⟩
theorem half_lt {p : Int} (hp : 17 ≤ p) (hp2 : p ≤ 1004535809) (s : Nat) : 0 ≤ (p - 1) / 2 ^ s ∧ (p - 1) / 2 ^ s ≤ p - 1 ∧ (1 ≤ s → (p - 1) / 2 ^ s < p - 1) := by
 have h2 : (0 : Int) < 2 ^ s := Int.pow_pos (by omega)
 refine ⟨Int.ediv_nonneg (by omega) (by omega), Int.ediv_le_self _ (by omega), fun h => ?_⟩
 apply Int.ediv_lt_of_lt_mul h2
 have : (2 : Int) ≤ 2 ^ s := by
  obtain ⟨q, rfl⟩ : ∃ q, s = q + 1 := ⟨s - 1, by omega⟩
  have h3 : (0 : Int) < 2 ^ q := Int.pow_pos (by omega)
  rw [Int.pow_succ]; omega
 have h4 : (p - 1) * 2 ≤ (p - 1) * 2 ^ s := Int.mul_le_mul_of_nonneg_left this (by omega)
 omega
theorem rt_pm {f : Int} (h : fldOk f) (s : Nat) : rt f s = (pm (mdP f).toNat 40 (rd fG f).toNat ((mdP f - 1) / 2 ^ s).toNat : Int) := by
 have hm := mdP_range h
 have hg := fG_range h
 have hh := half_lt hm.1 hm.2 s
 unfold rt
 rw [← pm_int _ 40 _ _ (by omega)]
 rw [show (((rd fG f).toNat : Nat) : Int) = rd fG f by omega, show (((mdP f).toNat : Nat) : Int) = mdP f by omega]
theorem rt_zero {f : Int} (h : fldOk f) : rt f 0 = 1 := by
 rw [rt_pm h]
 exact fld_cases (Q := fun f => (pm (mdP f).toNat 40 (rd fG f).toNat ((mdP f - 1) / 2 ^ 0).toNat : Int) = 1) h (by decide +kernel) (by decide +kernel) (by decide +kernel) (by decide +kernel) (by decide +kernel) (by decide +kernel) (by decide +kernel) (by decide +kernel) (by decide +kernel)
theorem rt_one {f : Int} (h : fldOk f) : rt f 1 = mdP f - 1 := by
 rw [rt_pm h]
 exact fld_cases (Q := fun f => (pm (mdP f).toNat 40 (rd fG f).toNat ((mdP f - 1) / 2 ^ 1).toNat : Int) = mdP f - 1) h (by decide +kernel) (by decide +kernel) (by decide +kernel) (by decide +kernel) (by decide +kernel) (by decide +kernel) (by decide +kernel) (by decide +kernel) (by decide +kernel)
theorem two_div {f : Int} (h : fldOk f) : (2 : Int) ^ (rd fT f).toNat ∣ mdP f - 1 :=
 fld_cases (Q := fun f => (2 : Int) ^ (rd fT f).toNat ∣ mdP f - 1) h (by decide +kernel) (by decide +kernel) (by decide +kernel) (by decide +kernel) (by decide +kernel) (by decide +kernel) (by decide +kernel) (by decide +kernel) (by decide +kernel)
theorem half_two {f : Int} (h : fldOk f) (s d : Nat) (hs : s + d ≤ (rd fT f).toNat) : ((mdP f - 1) / 2 ^ s).toNat = 2 ^ d * ((mdP f - 1) / 2 ^ (s + d)).toNat := by
 have hm := mdP_range h
 obtain ⟨c0, hc⟩ := two_div h
 obtain ⟨r, hr⟩ : ∃ r, (rd fT f).toNat = s + d + r := ⟨(rd fT f).toNat - (s + d), by omega⟩
 have h2 : (0 : Int) < 2 ^ s := Int.pow_pos (by omega)
 have h3 : (0 : Int) < 2 ^ d := Int.pow_pos (by omega)
 rw [hr, Int.pow_add, Int.pow_add, Int.mul_assoc, Int.mul_assoc] at hc
 obtain ⟨c, hcc⟩ : ∃ c, c = 2 ^ r * c0 := ⟨_, rfl⟩
 rw [← hcc] at hc
 have hc0 : 0 ≤ c := by
  rcases Int.lt_or_le c 0 with hx | hx
  · have := Int.mul_neg_of_pos_of_neg h2 (Int.mul_neg_of_pos_of_neg h3 hx)
    omega
  · exact hx
 rw [hc, Int.mul_ediv_cancel_left _ (Int.ne_of_gt h2), Int.pow_add, Int.mul_ediv_mul_of_pos _ _ h2, Int.mul_ediv_cancel_left _ (Int.ne_of_gt h3)]
 obtain ⟨n, rfl⟩ : ∃ n : Nat, c = (n : Int) := ⟨c.toNat, by omega⟩
 rw [Int.toNat_natCast, show ((2 : Int) ^ d * (n : Int)) = ((2 ^ d * n : Nat) : Int) by simp, Int.toNat_natCast]
theorem rt_pow {f : Int} (h : fldOk f) (s d : Nat) (hs : s + d ≤ (rd fT f).toNat) (j : Nat) : Md (mdP f) (rt f (s + d) ^ (2 ^ d * j)) (rt f s ^ j) := by
 have e1 : Md (mdP f) (rt f (s + d)) (rd fG f ^ ((mdP f - 1) / 2 ^ (s + d)).toNat) := Md.mod _ _
 have e2 : Md (mdP f) (rt f s) (rd fG f ^ ((mdP f - 1) / 2 ^ s).toNat) := Md.mod _ _
 refine (e1.pow _).trans (Md.trans (Md.of_eq ?_) (e2.pow _).symm)
 rw [half_two h s d hs, ← Int.pow_mul, ← Int.pow_mul]
 congr 1
 rw [Nat.mul_left_comm, Nat.mul_assoc]
theorem roots {f : Int} (h : fldOk f) : Roots (mdP f) (rt f) (rd fT f).toNat where
 one := Md.of_eq (rt_zero h)
 half := fun _ => by rw [rt_one h]; exact ⟨1, by omega⟩
 sq := fun s hs => by
  have := rt_pow h s 1 hs 1
  simpa [Int.pow_succ] using this

theorem sGen_ev {f : Int} (h : fldOk f) : Ev (fun k => spec_Generator.f k f) (rd fG f) :=
 fld_cases (Q := fun f => Ev (fun k => spec_Generator.f k f) (rd fG f)) h (Ev.of (fun k => spec_Generator.mono _ k) (k := 3) (by decide +kernel)) (Ev.of (fun k => spec_Generator.mono _ k) (k := 3) (by decide +kernel)) (Ev.of (fun k => spec_Generator.mono _ k) (k := 3) (by decide +kernel)) (Ev.of (fun k => spec_Generator.mono _ k) (k := 3) (by decide +kernel)) (Ev.of (fun k => spec_Generator.mono _ k) (k := 3) (by decide +kernel)) (Ev.of (fun k => spec_Generator.mono _ k) (k := 3) (by decide +kernel)) (Ev.of (fun k => spec_Generator.mono _ k) (k := 3) (by decide +kernel)) (Ev.of (fun k => spec_Generator.mono _ k) (k := 3) (by decide +kernel)) (Ev.of (fun k => spec_Generator.mono _ k) (k := 3) (by decide +kernel))

theorem shr_pow (x : Int) {s : Nat} (h : s ≤ 60) : shr .i64 x (s : Int) = x / 2 ^ s ∧ IntKind.u64.wrap (s : Int) = (s : Int) := by
 refine ⟨?_, ?_⟩
 · unfold shr
   rw [Int.toNat_natCast, Nat.min_eq_left (show s ≤ IntKind.i64.bits by show s ≤ 64; omega)]
 · unfold IntKind.wrap
   have e : (s : Int) % 2 ^ IntKind.u64.bits = s := by show (s : Int) % 2 ^ 64 = s; omega
   rw [e]
   refine if_neg ?_
   show ¬ ((false && _) = true)
   simp

theorem sRoot_ev {f : Int} (h : fldOk f) (s : Nat) (hs : (s : Int) ≤ rd fT f) : Ev (fun k => spec_RootOf.f k f (s : Int)) (rt f s) := by
 have hm := mdP_range h
 have hg := fG_range h
 have hT := fT_range h
 have hh := half_lt hm.1 hm.2 s
 have hme := md_eq h
 have ht : two f = rd fT f := by unfold two; rw [if_pos h]
 have hp := sPow_ev h (rd fG f) ((mdP f - 1) / 2 ^ s) (by rw [← hme, Int.emod_eq_of_lt (by omega) hg.2.1]; omega)
 rw [← hme, Int.emod_eq_of_lt (by omega) hg.2.1] at hp
 have hr : rd fG f ^ expOf (mdP f) ((mdP f - 1) / 2 ^ s) % mdP f = rt f s := by
  by_cases h1 : 1 ≤ s
  · unfold expOf rt
    rw [Int.emod_eq_of_lt hh.1 (hh.2.2 h1)]
  · rw [show s = 0 by omega, rt_zero h]
    unfold expOf
    rw [Int.pow_zero, Int.ediv_one, Int.emod_self]
    simp
    exact Int.emod_eq_of_lt (by omega) (by omega)
 rw [hr] at hp
 obtain ⟨n, e1, e2, e3⟩ := evs3 (sTwo_ev f) (sGen_ev h) hp
 refine ⟨n + 1, fun k hk => ?_⟩
 obtain ⟨j, rfl⟩ : ∃ j, k = n + j + 1 := ⟨k - n - 1, by omega⟩
 have e1' := e1 (j + 1)
 rw [← Nat.add_assoc] at e1'
 have hw : wrap64 (mdP f - 1) = mdP f - 1 := w64 (by omega) (by omega)
 have hsh := shr_pow (mdP f - 1) (s := s) (by omega)
 simp only [spec_RootOf.f, spec_RootOf.j0, sMod, ← hme, in_eq, e1', ht, Option.bind_some]
 rw [if_neg (by omega), decide_eq_true (by omega)]
 simp only [Bool.not_true, Bool.false_eq_true, if_false, e2, Option.bind_some, hw, hsh.2, hsh.1, e3]
 rw [if_pos (by omega)]

theorem iRoot_ev {f : Int} (h : fldOk f) (s : Nat) (hs : s ≤ 60) : Ev (fun k => impl_field_root.f k (mdP f) (rd fG f) (rd fT f) (s : Int)) (rt f s) := by
 have hm := mdP_range h
 have hg := fG_range h
 have hh := half_lt hm.1 hm.2 s
 have hw : wrap64 (mdP f - 1) = mdP f - 1 := w64 (by omega) (by omega)
 obtain ⟨n, e⟩ := evs1 (iPow_ev (p := mdP f) (g := rd fG f) (t := rd fT f) (a := rd fG f) (by omega) (by omega) ((mdP f - 1) / 2 ^ s).toNat (by omega) (by omega) hg.2.1)
 rw [show ((((mdP f - 1) / 2 ^ s).toNat : Nat) : Int) = (mdP f - 1) / 2 ^ s by omega] at e
 refine ⟨n, fun k hk => ?_⟩
 obtain ⟨j, rfl⟩ : ∃ j, k = n + j := ⟨k - n, by omega⟩
 simp only [impl_field_root.f, hw, (shr_pow (mdP f - 1) hs).1, e, Option.bind_some]
 rw [if_pos (by omega)]
 rfl

theorem iAdd {p g t a b : Int} (hp : 2 ≤ p) (hp2 : p ≤ 2147483648) (ha : 0 ≤ a) (ha' : a < p) (hb : 0 ≤ b) (hb' : b < p) : impl_field_add.f p g t a b = some ((a + b) % p) := by
 simp only [impl_field_add.f]
 rw [if_neg (by omega), w64 (by omega) (by omega), Int.tmod_eq_emod_of_nonneg (by omega)]

theorem iSub {p g t a b : Int} (hp : 2 ≤ p) (hp2 : p ≤ 2147483648) (ha : 0 ≤ a) (ha' : a < p) (hb : 0 ≤ b) (hb' : b < p) : impl_field_sub.f p g t a b = some ((a - b) % p) := by
 simp only [impl_field_sub.f]
 rw [if_neg (by omega), w64 (x := a - b) (by omega) (by omega), w64 (by omega) (by omega), Int.tmod_eq_emod_of_nonneg (by omega), Int.add_emod_right]

def stP (f : Int) (lv : Nat) (v : List Int) (x : Nat) : Int := stg (mdP f) (rt f (lv + 1)) lv (fun i => rd v (i : Int)) x
theorem stP_lo (f : Int) (lv : Nat) (v : List Int) (q j : Nat) (hj : j < 2 ^ lv) : stP f lv v (2 ^ lv * (2 * q) + j) = (rd v ((2 ^ lv * (2 * q) + j : Nat) : Int) + rd v ((2 ^ lv * (2 * q) + j + 2 ^ lv : Nat) : Int) * rt f (lv + 1) ^ j) % mdP f := by
 have e1 : (2 ^ lv * (2 * q) + j) % 2 ^ lv = j := by rw [Nat.mul_add_mod, Nat.mod_eq_of_lt hj]
 have e2 : (2 ^ lv * (2 * q) + j) / 2 ^ lv = 2 * q := by rw [Nat.mul_add_div (Nat.pow_pos (by omega)), Nat.div_eq_of_lt hj, Nat.add_zero]
 unfold stP stg
 rw [e1, e2, if_pos (by omega)]
theorem stP_hi (f : Int) (lv : Nat) (v : List Int) (q j : Nat) (hj : j < 2 ^ lv) : stP f lv v (2 ^ lv * (2 * q) + j + 2 ^ lv) = (rd v ((2 ^ lv * (2 * q) + j : Nat) : Int) - rd v ((2 ^ lv * (2 * q) + j + 2 ^ lv : Nat) : Int) * rt f (lv + 1) ^ j) % mdP f := by
 have e : 2 ^ lv * (2 * q) + j + 2 ^ lv = 2 ^ lv * (2 * q + 1) + j := by rw [Nat.mul_add]; omega
 have e1 : (2 ^ lv * (2 * q) + j + 2 ^ lv) % 2 ^ lv = j := by rw [e, Nat.mul_add_mod, Nat.mod_eq_of_lt hj]
 have e2 : (2 ^ lv * (2 * q) + j + 2 ^ lv) / 2 ^ lv = 2 * q + 1 := by rw [e, Nat.mul_add_div (Nat.pow_pos (by omega)), Nat.div_eq_of_lt hj, Nat.add_zero]
 unfold stP stg
 rw [e1, e2, if_neg (by omega), Nat.add_sub_cancel]
def stepP (K lv fr en : Int) : Prop := 0 ≤ lv ∧ lv < K ∧ 0 ≤ fr ∧ fr < en ∧ en ≤ halfK K
instance stepP_dec (K lv fr en : Int) : Decidable (stepP K lv fr en) := by unfold stepP; infer_instance

theorem sStep {K : Nat} (hK : K ≤ 9) (lv fr en : Int) : spec_l09Run.f (K : Int) lv fr en = some (decide (stepP (K : Int) lv fr en)) := by
 have hs := (shl_pow (i := K) (by omega)).2.2
 simp only [spec_l09Run.f, in_eq, Option.bind_some, decide_eq_true_eq]
 rw [w64 (x := (K : Int) - 1) (by omega) (by omega)]
 by_cases h1 : 0 ≤ lv ∧ lv ≤ (K : Int) - 1
 · have hh := shl_half (k := (K : Int)) (by omega) (by omega)
   rw [if_pos h1]
   by_cases h2 : 0 ≤ fr
   · rw [if_pos h2]
     by_cases h3 : fr < en
     · rw [if_pos h3, if_pos hs, hh.2.1]
       exact congrArg some (decide_eq_decide.2 ⟨fun x => ⟨h1.1, by omega, h2, h3, x⟩, fun x => x.2.2.2.2⟩)
     · rw [if_neg h3, decide_eq_false (fun x : stepP _ _ _ _ => h3 x.2.2.2.1)]
   · rw [if_neg h2, decide_eq_false (fun x : stepP _ _ _ _ => h2 x.2.2.1)]
 · rw [if_neg h1, decide_eq_false (fun x : stepP _ _ _ _ => h1 ⟨x.1, by have := x.2.1; omega⟩)]

theorem iStep {K : Nat} (hK : K ≤ 9) (lv fr en : Int) : impl_isStep.f lv fr en (K : Int) = some (decide (stepP (K : Int) lv fr en)) := by
 simp only [impl_isStep.f]
 by_cases h0 : lv ≥ 0
 · rw [if_pos h0]
   by_cases h1 : lv < (K : Int)
   · have hh := shl_half (k := (K : Int)) (by omega) (by omega)
     rw [if_pos h1]
     by_cases h2 : fr ≥ 0
     · rw [if_pos h2]
       by_cases h3 : fr < en
       · rw [if_pos h3, if_pos (by rw [w64 (by omega) (by omega)]; omega), hh.1]
         exact congrArg some (decide_eq_decide.2 ⟨fun x => ⟨h0, h1, h2, h3, x⟩, fun x => x.2.2.2.2⟩)
       · rw [if_neg h3, decide_eq_false (fun x : stepP _ _ _ _ => h3 x.2.2.2.1)]
     · rw [if_neg h2, decide_eq_false (fun x : stepP _ _ _ _ => h2 x.2.2.1)]
   · rw [if_neg h1, decide_eq_false (fun x : stepP _ _ _ _ => h1 x.2.1)]
 · rw [if_neg h0, decide_eq_false (fun x : stepP _ _ _ _ => h0 x.1)]

def posB (lv b : Nat) : Nat := 2 ^ lv * (2 * (b / 2 ^ lv)) + b % 2 ^ lv
def runL (f : Int) (lv : Nat) (v : List Int) : Nat → Nat → List Int → List Int
 | 0, _, out => out
 | d + 1, b, out => runL f lv v d (b + 1) ((out.set (posB lv b) (stP f lv v (posB lv b))).set (posB lv b + 2 ^ lv) (stP f lv v (posB lv b + 2 ^ lv)))
theorem pos_facts (lv m b H n : Nat) (hH : H = 2 ^ lv) (hn : n = 2 ^ lv * (2 * 2 ^ m)) (hb : b < H * 2 ^ m) : ∃ q j P : Nat, b / H = q ∧ b % H = j ∧ j < H ∧ P = posB lv b ∧ P = 2 ^ lv * (2 * q) + j ∧ q * 2 * H + j = P ∧ P + H < n ∧ q * 2 * H ≤ P := by
 subst hH
 have h0 : 0 < 2 ^ lv := Nat.pow_pos (by omega)
 have hq : b / 2 ^ lv < 2 ^ m := Nat.div_lt_of_lt_mul hb
 have hj : b % 2 ^ lv < 2 ^ lv := Nat.mod_lt _ h0
 have e : b / 2 ^ lv * 2 * 2 ^ lv = 2 ^ lv * (2 * (b / 2 ^ lv)) := by rw [Nat.mul_comm (2 ^ lv), Nat.mul_comm 2]
 refine ⟨b / 2 ^ lv, b % 2 ^ lv, posB lv b, rfl, rfl, hj, rfl, rfl, by rw [e]; rfl, ?_, by rw [e]; exact Nat.le_add_right _ _⟩
 unfold posB
 have h2 : 2 ^ lv * (2 * (b / 2 ^ lv + 1)) ≤ n := by rw [hn]; exact Nat.mul_le_mul (Nat.le_refl _) (by omega)
 rw [Nat.mul_add, Nat.mul_add] at h2
 generalize 2 ^ lv * (2 * (b / 2 ^ lv)) = X at h2 ⊢
 generalize b % 2 ^ lv = Y at hj ⊢
 generalize 2 ^ lv = Z at h2 hj ⊢
 omega
theorem iRunStep_l {f : Int} (hf : fldOk f) (lv m : Nat) (v : List Int) (hv : ∀ i, i < v.length → 0 ≤ rd v (i : Int) ∧ rd v (i : Int) < mdP f) (hn : v.length = 2 ^ lv * (2 * 2 ^ m)) (h512 : v.length ≤ 512) (H : Nat) (hH : H = 2 ^ lv) (en : Nat) (hen : en ≤ H * 2 ^ m) (x0 x1 : Int) :
 ∀ (d b : Nat) (out : List Int), en - b = d → b ≤ en → out.length = v.length →
 Ev (fun k => impl_field_runStep.l0 k v out (H : Int) (rt f (lv + 1)) (b : Int) (mdP f) (rd fG f) (rd fT f) x0 x1 (en : Int)) (runL f lv v d b out) := by
 have hm := mdP_range hf
 have hw := rt_range hf (lv + 1)
 have hb512 : en ≤ 512 := by
  have : H * 2 ^ m ≤ v.length := by rw [hn, hH]; exact Nat.mul_le_mul (Nat.le_refl _) (by omega)
  omega
 intro d
 induction d with
 | zero =>
  intro b out hd hb ho
  refine ev_now fun k => ?_
  simp only [impl_field_runStep.l0]
  rw [if_neg (by omega)]; rfl
 | succ d ih =>
  intro b out hd hb ho
  have key := ih (b + 1) ((out.set (posB lv b) (stP f lv v (posB lv b))).set (posB lv b + 2 ^ lv) (stP f lv v (posB lv b + 2 ^ lv))) (by omega) (by omega) (by simp [ho])
  obtain ⟨q, j, P, hq, hj, hjH, hP, hP2, hP3, hPn, hqP⟩ := pos_facts lv m b H v.length hH hn (by omega)
  have g1 : Int.tdiv (b : Int) (H : Int) = (q : Int) := by rw [Int.tdiv_eq_ediv_of_nonneg (by omega), ← hq]; simp
  have g2 : Int.tmod (b : Int) (H : Int) = (j : Int) := by rw [Int.tmod_eq_emod_of_nonneg (by omega), ← hj]; simp
  have hq1 : q * 2 ≤ q * 2 * H := Nat.le_mul_of_pos_right _ (by omega)
  have hlo := stP_lo f lv v q j (by omega)
  have hhi := stP_hi f lv v q j (by omega)
  rw [← hP2, ← hH] at hlo hhi
  rw [← hP, ← hH] at key
  have e : runL f lv v (d + 1) b out = runL f lv v d (b + 1) ((out.set P (stP f lv v P)).set (P + H) (stP f lv v (P + H))) := by rw [runL, ← hP, ← hH]
  rw [e]
  have hpw := iPow_ev (p := mdP f) (g := rd fG f) (t := rd fT f) (a := rt f (lv + 1)) (by omega) (by omega) j (by omega) hw.1 hw.2
  have vP := hv P (by omega)
  have vH := hv (P + H) (by omega)
  have pw : 0 ≤ rt f (lv + 1) ^ j % mdP f ∧ rt f (lv + 1) ^ j % mdP f < mdP f := ⟨Int.emod_nonneg _ (by omega), Int.emod_lt_of_pos _ (by omega)⟩
  have t1 := iMul (p := mdP f) (g := rd fG f) (t := rd fT f) (by omega) (by omega) vH.1 vH.2 pw.1 pw.2
  have pt : 0 ≤ rd v ((P + H : Nat) : Int) * (rt f (lv + 1) ^ j % mdP f) % mdP f ∧ rd v ((P + H : Nat) : Int) * (rt f (lv + 1) ^ j % mdP f) % mdP f < mdP f := ⟨Int.emod_nonneg _ (by omega), Int.emod_lt_of_pos _ (by omega)⟩
  have t2 := iAdd (p := mdP f) (g := rd fG f) (t := rd fT f) (by omega) (by omega) vP.1 vP.2 pt.1 pt.2
  have t3 := iSub (p := mdP f) (g := rd fG f) (t := rd fT f) (by omega) (by omega) vP.1 vP.2 pt.1 pt.2
  have eA : (rd v (P : Int) + rd v ((P + H : Nat) : Int) * (rt f (lv + 1) ^ j % mdP f) % mdP f) % mdP f = stP f lv v P := by
   rw [hlo]
   exact ((Md.refl _ _).add ((Md.mod _ _).trans ((Md.refl _ _).mul (Md.mod _ _)))).emod
  have eB : (rd v (P : Int) - rd v ((P + H : Nat) : Int) * (rt f (lv + 1) ^ j % mdP f) % mdP f) % mdP f = stP f lv v (P + H) := by
   rw [hhi]
   exact ((Md.refl _ _).sub ((Md.mod _ _).trans ((Md.refl _ _).mul (Md.mod _ _)))).emod
  rw [eA] at t2
  rw [eB] at t3
  clear hP2 e hn eA eB hlo hhi pt pw vP vH hv hw
  have hbn : en ≤ 512 := hb512
  generalize 2 ^ m = M at hen
  clear hH
  have c0 : (b : Int) < (en : Int) := by omega
  have c1 : ¬ (H : Int) = 0 := by omega
  have c2 : 0 ≤ (P : Int) := by omega
  have c3 : (P : Int) < (v.length : Int) := by omega
  have c4 : 0 ≤ ((P + H : Nat) : Int) := by omega
  have c5 : ((P + H : Nat) : Int) < (v.length : Int) := by omega
  obtain ⟨w1, w2, w3, w4, w5, w6⟩ : wrap64 (q : Int) = (q : Int) ∧ wrap64 ((q : Int) * 2) = ((q * 2 : Nat) : Int) ∧ wrap64 (((q * 2 : Nat) : Int) * (H : Int)) = ((q * 2 * H : Nat) : Int) ∧ wrap64 (((q * 2 * H : Nat) : Int) + (j : Int)) = (P : Int) ∧ wrap64 ((P : Int) + (H : Int)) = ((P + H : Nat) : Int) ∧ wrap64 ((b : Int) + 1) = ((b + 1 : Nat) : Int) :=
   ⟨w64n rfl (by omega), w64n (by omega) (by omega), w64n (by simp) (by omega), w64n (by omega) (by omega), w64n (by omega) (by omega), wsucc (by omega)⟩
  obtain ⟨n, e1, e2⟩ := evs2 hpw key
  refine ⟨n + 1, fun k hk => ?_⟩
  obtain ⟨k, rfl⟩ : ∃ i, k = n + i + 1 := ⟨k - n - 1, by clear w1 w2 w3 w4 w5 w6 g1 g2; omega⟩
  have e1 := e1 k
  have e2 := e2 k
  simp only [impl_field_runStep.l0, g1, g2, w1, w2, w3, w4, w5, w6, ho, c0, c1, c2, c3, c4, c5, e1, t1, t2, t3, Option.bind_some, if_true, if_false, Int.toNat_natCast]
  exact e2

theorem iRev_l (K : Nat) (hK : K ≤ 9) : ∀ (d i : Nat) (x out : Nat), i + d = K → x ≤ 1024 → out < 2 ^ i → Ev (fun k => impl_reversed.l0 k (x : Int) (out : Int) (K : Int) (i : Int)) ((out * 2 ^ d + rv d x : Nat) : Int) := by
 intro d
 induction d with
 | zero =>
  intro i x out h hx ho
  refine ev_now fun k => ?_
  simp only [impl_reversed.l0]
  rw [if_neg (by omega)]
  simp [rv]
 | succ d ih =>
  intro i x out h hx ho
  have hp := pow2_9 (K := i) (by omega)
  have hs : 2 ^ (i + 1) = 2 * 2 ^ i := by rw [Nat.pow_succ]; omega
  have key := ih (i + 1) (x / 2) (2 * out + x % 2) (by omega) (by omega) (by omega)
  have e : (2 * out + x % 2) * 2 ^ d + rv d (x / 2) = out * 2 ^ (d + 1) + rv (d + 1) x := by
   rw [rv_succ, Nat.add_mul, Nat.pow_succ, Nat.mul_comm 2 out, Nat.mul_assoc, Nat.mul_comm 2 (2 ^ d)]; omega
  rw [e] at key
  refine Ev.step (fun k => ?_) key
  have hb := bits_and1 x (by omega)
  rw [show ((1 : Nat) : Int) = 1 by rfl] at hb
  have w1 : wrap64 (2 * (out : Int)) = ((2 * out : Nat) : Int) := w64n (by omega) (by omega)
  have w2 : wrap64 (((2 * out : Nat) : Int) + ((x % 2 : Nat) : Int)) = ((2 * out + x % 2 : Nat) : Int) := w64n (by omega) (by omega)
  have w3 : wrap64 ((i : Int) + 1) = ((i + 1 : Nat) : Int) := wsucc (by omega)
  have c1 : (i : Int) < (K : Int) := by clear w1 w2 w3; omega
  have c2 : (x : Int) / 2 = ((x / 2 : Nat) : Int) := by clear w1 w2 w3; omega
  simp only [impl_reversed.l0, hb, w1, w2, w3, c1, c2, if_true]
theorem iRev_ev (K : Nat) (hK : K ≤ 9) (x : Nat) (hx : x ≤ 1024) : Ev (fun k => impl_reversed.f k (x : Int) (K : Int)) ((rv K x : Nat) : Int) := by
 have := iRev_l K hK K 0 x 0 (by omega) hx (by simp)
 rw [Nat.zero_mul, Nat.zero_add] at this
 exact Ev.congr (fun k => rfl) this

theorem iPerm_l (K : Nat) (hK : K ≤ 9) (v : List Int) (hn : v.length = 2 ^ K) : ∀ (d i : Nat), v.length - i = d → i ≤ v.length →
 Ev (fun k => impl_permuted.l0 k (K : Int) (tab v.length (fun y => if rv K y < i then rd v ((rv K y : Nat) : Int) else 0)) v (v.length : Int) (i : Int)) (tab v.length (fun y => rd v ((rv K y : Nat) : Int))) := by
 have h9 := pow2_9 hK
 intro d
 induction d with
 | zero =>
  intro i h hi
  refine ev_now fun k => ?_
  simp only [impl_permuted.l0]
  rw [if_neg (by omega)]
  refine congrArg some (tab_congr fun y hy => ?_)
  rw [if_pos (by have := rv_lt K y; omega)]
 | succ d ih =>
  intro i h hi
  have key := ih (i + 1) (by omega) (by omega)
  have hr := rv_lt K i
  have e : (tab v.length (fun y => if rv K y < i then rd v ((rv K y : Nat) : Int) else 0)).set (rv K i) (rd v (i : Int)) = tab v.length (fun y => if rv K y < i + 1 then rd v ((rv K y : Nat) : Int) else 0) := by
   rw [tab_set]
   refine tab_congr fun y hy => ?_
   by_cases hy1 : y = rv K i
   · rw [if_pos hy1, hy1, rv_rv K i (by omega), if_pos (by omega)]
   · have hne : rv K y ≠ i := fun hh => hy1 (by rw [← hh, rv_rv K y (by omega)])
     rw [if_neg hy1]
     by_cases hlt : rv K y < i
     · rw [if_pos hlt, if_pos (by omega)]
     · rw [if_neg hlt, if_neg (by omega)]
  rw [← e] at key
  obtain ⟨n, e1, e2⟩ := evs2 (iRev_ev K hK i (by omega)) key
  refine ⟨n + 1, fun k hk => ?_⟩
  obtain ⟨j, rfl⟩ : ∃ j, k = n + j + 1 := ⟨k - n - 1, by omega⟩
  simp only [impl_permuted.l0, e1 j, Option.bind_some, Int.toNat_natCast, tab_len]
  rw [if_pos (by omega), if_pos (by omega), if_pos (by omega), if_pos (by omega), if_pos (by omega), wsucc (by omega)]
  exact e2 j
theorem iPerm_ev (K : Nat) (hK : K ≤ 9) (v : List Int) (hn : v.length = 2 ^ K) : Ev (fun k => impl_permuted.f k v) (tab v.length (fun y => rd v ((rv K y : Nat) : Int))) := by
 have h9 := pow2_9 hK
 have hlog : logB (v.length : Int) = K := by rw [hn]; simpa using logB_pow hK
 have key := iPerm_l K hK v hn v.length 0 (by omega) (by omega)
 have e0 : tab v.length (fun y => if rv K y < 0 then rd v ((rv K y : Nat) : Int) else 0) = List.replicate v.length 0 := by
  apply List.ext_getElem
  · simp [tab]
  · intro i h1 h2
    simp [tab]
 rw [e0] at key
 obtain ⟨n, e1, e2⟩ := evs2 (iLogOf_ev (v.length : Int)) key
 refine ⟨n, fun k hk => ?_⟩
 obtain ⟨j, rfl⟩ : ∃ j, k = n + j := ⟨k - n, by omega⟩
 simp only [impl_permuted.f, e1 j, hlog, Option.bind_some, Int.toNat_natCast]
 rw [if_pos (by omega), if_pos (by omega)]
 exact e2 j

def fwd (f : Int) (K : Nat) (v : List Int) (i : Nat) : Int := dft (2 ^ K) (rt f K) (fun x => rd v (x : Int)) i % mdP f
theorem lev_range {p : Int} (hp : 0 < p) {w : Nat → Int} {a : Nat → Int} {n : Nat} (ha : ∀ i, i < n → 0 ≤ a i ∧ a i < p) : ∀ s x, x < n → 0 ≤ lev p w a s x ∧ lev p w a s x < p := by
 intro s x hx
 cases s with
 | zero => exact ha x hx
 | succ s =>
  rw [lev]
  unfold stg
  split
  · exact ⟨Int.emod_nonneg _ (by omega), Int.emod_lt_of_pos _ hp⟩
  · exact ⟨Int.emod_nonneg _ (by omega), Int.emod_lt_of_pos _ hp⟩
theorem lev_fwd {f : Int} (hf : fldOk f) (K : Nat) (hK : (K : Int) ≤ rd fT f) (v : List Int) (hn : v.length = 2 ^ K) (hel : ∀ i : Nat, i < v.length → 0 ≤ rd v (i : Int) ∧ rd v (i : Int) < mdP f) :
 tab v.length (lev (mdP f) (rt f) (fun y => rd v ((rv K y : Nat) : Int)) K) = tab v.length (fwd f K v) := by
 have hm := mdP_range hf
 refine tab_congr fun x hx => ?_
 have h1 := lev_dft (roots hf) K (by omega) (fun x => rd v (x : Int)) x (by omega)
 have h2 := lev_range (p := mdP f) (by omega) (w := rt f) (a := fun y => rd v ((rv K y : Nat) : Int)) (n := v.length) (fun i hi => hel _ (by have := rv_lt K i; omega)) K x hx
 exact (h1.trans (Md.mod _ _).symm).eq h2.1 h2.2 (Int.emod_nonneg _ (by omega)) (Int.emod_lt_of_pos _ (by omega))

/-! the places that the steps of a plan turn, numbered level by level -/
def rngP (lv : Nat) : Nat → Nat → List Nat
 | _, 0 => []
 | b, d + 1 => (lv * 512 + b) :: rngP lv (b + 1) d
def ptsOf (s : S36) : List Nat := rngP s.f0.toNat s.f1.toNat (s.f2 - s.f1).toNat
def pts : List S36 → List Nat
 | [] => []
 | s :: r => ptsOf s ++ pts r
def okAt (K : Int) (l : List S36) (i : Nat) : Prop := stepP K (rd_T36 l (i : Int)).f0 (rd_T36 l (i : Int)).f1 (rd_T36 l (i : Int)).f2 ∧ (0 < i → (rd_T36 l ((i - 1 : Nat) : Int)).f0 ≤ (rd_T36 l (i : Int)).f0)
instance okAt_dec (K : Int) (l : List S36) (i : Nat) : Decidable (okAt K l i) := by unfold okAt; infer_instance
def okS (K : Int) (l : List S36) : Bool := allF l.length 0 (fun i => decide (okAt K l i))
def onceB (K : Nat) (l : List S36) : Bool := allF K 0 (fun s => allF (2 ^ (K - 1)) 0 (fun b => decide ((pts l).count (s * 512 + b) = 1)))
theorem rngP_mem (lv : Nat) : ∀ d b x, x ∈ rngP lv b d ↔ ∃ y, b ≤ y ∧ y < b + d ∧ x = lv * 512 + y := by
 intro d
 induction d with
 | zero => intro b x; simp [rngP]; intro y h1 h2; omega
 | succ d ih =>
  intro b x
  rw [rngP, List.mem_cons, ih]
  constructor
  · rintro (h | ⟨y, h1, h2, h3⟩)
    · exact ⟨b, by omega, by omega, h⟩
    · exact ⟨y, by omega, by omega, h3⟩
  · rintro ⟨y, h1, h2, h3⟩
    by_cases hy : y = b
    · left; rw [h3, hy]
    · right; exact ⟨y, by omega, by omega, h3⟩
theorem rngP_len (lv : Nat) : ∀ d b, (rngP lv b d).length = d := by
 intro d
 induction d with
 | zero => intro b; rfl
 | succ d ih => intro b; simp [rngP, ih]
theorem step_nat {K : Nat} (hK : K ≤ 9) {s : S36} (h : stepP (K : Int) s.f0 s.f1 s.f2) : ∃ lv fr en : Nat, s.f0 = lv ∧ s.f1 = fr ∧ s.f2 = en ∧ lv < K ∧ fr < en ∧ en ≤ 2 ^ (K - 1) ∧ 2 ^ (K - 1) ≤ 256 := by
 obtain ⟨h1, h2, h3, h4, h5⟩ := h
 obtain ⟨lv, e1⟩ := Int.eq_ofNat_of_zero_le h1
 obtain ⟨fr, e2⟩ := Int.eq_ofNat_of_zero_le h3
 obtain ⟨en, e3⟩ := Int.eq_ofNat_of_zero_le (show 0 ≤ s.f2 by omega)
 have h6 := (shl_half (k := (K : Int)) (by omega) (by omega)).2.2.2
 unfold halfK at h5 h6
 rw [Int.toNat_natCast, show (2 : Int) ^ (K - 1) = ((2 ^ (K - 1) : Nat) : Int) by simp] at h5 h6
 exact ⟨lv, fr, en, e1, e2, e3, by omega, by omega, by omega, by omega⟩
theorem okS_at {K : Int} {l : List S36} (h : okS K l = true) {i : Nat} (hi : i < l.length) : okAt K l i := of_decide_eq_true ((allF_iff _ _ _).1 h i (by omega) (by omega))
theorem okS_mem {K : Int} {l : List S36} (h : okS K l = true) {s : S36} (hs : s ∈ l) : stepP K s.f0 s.f1 s.f2 := by
 obtain ⟨i, hi, rfl⟩ := List.mem_iff_getElem.1 hs
 have := (okS_at h hi).1
 rwa [rdStep hi] at this
theorem pts_mem {K : Nat} (hK : K ≤ 9) : ∀ (l : List S36), (∀ s ∈ l, stepP (K : Int) s.f0 s.f1 s.f2) → ∀ x ∈ pts l, ∃ s b, s < K ∧ b < 2 ^ (K - 1) ∧ x = s * 512 + b := by
 intro l
 induction l with
 | nil => intro h x hx; exact absurd hx (by simp [pts])
 | cons s r ih =>
  intro h x hx
  rw [pts, List.mem_append] at hx
  rcases hx with hx | hx
  · obtain ⟨lv, fr, en, e1, e2, e3, h1, h2, h3, h4⟩ := step_nat hK (h s (List.mem_cons_self ..))
    unfold ptsOf at hx
    rw [e1, e2, e3, rngP_mem] at hx
    obtain ⟨y, y1, y2, y3⟩ := hx
    exact ⟨lv, y, h1, by omega, by simpa using y3⟩
  · exact ih (fun s hs => h s (List.mem_cons_of_mem _ hs)) x hx
theorem sm_zero_all {n : Nat} {g : Nat → Int} (h : ∀ i, i < n → 0 ≤ g i) (h0 : sm n g = 0) : ∀ i, i < n → g i = 0 := by
 induction n with
 | zero => intro i hi; omega
 | succ n ih =>
  have h1 : 0 ≤ sm n g := by
   clear h0 ih
   induction n with
   | zero => exact Int.le_refl _
   | succ m ihm => rw [sm]; have := ihm (fun i hi => h i (by omega)); have := h m (by omega); omega
  have h2 := h n (by omega)
  rw [sm] at h0
  intro i hi
  by_cases hin : i = n
  · subst hin; omega
  · exact ih (fun i hi => h i (by omega)) (by omega) i (by omega)
theorem sm_const (n : Nat) (c : Int) : sm n (fun _ => c) = n * c := by
 induction n with
 | zero => simp [sm]
 | succ n ih => rw [sm, ih]; grind
theorem count_region (K N : Nat) (hN : N ≤ 512) : ∀ (P : List Nat), (∀ x ∈ P, ∃ s b, s < K ∧ b < N ∧ x = s * 512 + b) → sm K (fun s => sm N (fun b => ((P.count (s * 512 + b) : Nat) : Int))) = P.length := by
 intro P
 induction P with
 | nil =>
  intro h
  rw [sm_congr (g := fun _ => 0) (fun s _ => by rw [sm_congr (g := fun _ => 0) (fun b _ => by simp)]; exact sm_zero N)]
  exact sm_zero K
 | cons x r ih =>
  intro h
  obtain ⟨s0, b0, h1, h2, h3⟩ := h x (List.mem_cons_self ..)
  have e : ∀ s, s < K → sm N (fun b => (((x :: r).count (s * 512 + b) : Nat) : Int)) = sm N (fun b => ((r.count (s * 512 + b) : Nat) : Int)) + (if s = s0 then 1 else 0) := by
   intro s hs
   have e1 : ∀ b, b < N → (((x :: r).count (s * 512 + b) : Nat) : Int) = ((r.count (s * 512 + b) : Nat) : Int) + (if b = b0 then (if s = s0 then 1 else 0) else 0) := by
    intro b hb
    rw [List.count_cons, Int.natCast_add]
    congr 1
    by_cases hx : x = s * 512 + b
    · rw [if_pos (by simpa using hx), if_pos (by omega), if_pos (by omega)]; rfl
    · rw [if_neg (by simpa using hx)]
      by_cases hb0 : b = b0
      · rw [if_pos hb0, if_neg (by omega)]; rfl
      · rw [if_neg hb0]; rfl
   rw [sm_congr e1, sm_add, sm_one N b0 h2 (fun _ => if s = s0 then 1 else 0)]
  rw [sm_congr e, sm_add, ih (fun y hy => h y (List.mem_cons_of_mem _ hy)), sm_one K s0 h1 (fun _ => 1)]
  simp
theorem once_iff {K : Nat} (hK : K ≤ 9) (l : List S36) (hok : okS (K : Int) l = true) : onceB K l = true ↔ (pts l).Nodup ∧ (pts l).length = K * 2 ^ (K - 1) := by
 have hN : 2 ^ (K - 1) ≤ 512 := (pow2_9 (by omega)).1
 have hmem := pts_mem hK l (fun s hs => okS_mem hok hs)
 have hc := count_region K (2 ^ (K - 1)) hN (pts l) hmem
 unfold onceB
 simp only [allF_iff, decide_eq_true_eq]
 generalize 2 ^ (K - 1) = N at *
 constructor
 · intro h
   have h1 : ∀ s, s < K → ∀ b, b < N → (pts l).count (s * 512 + b) = 1 := fun s hs b hb => h s (by omega) (by omega) b (by omega) (by omega)
   constructor
   · rw [List.nodup_iff_count]
     intro x
     by_cases hx : x ∈ pts l
     · obtain ⟨s, b, h2, h3, rfl⟩ := hmem x hx
       rw [h1 s h2 b h3]; exact Nat.le_refl _
     · rw [List.count_eq_zero_of_not_mem hx]; omega
   · rw [sm_congr (g := fun _ => (N : Int)) (fun s hs => by rw [sm_congr (g := fun _ => 1) (fun b hb => by rw [h1 s hs b hb]; rfl), sm_const]; simp), sm_const] at hc
     have : ((K * N : Nat) : Int) = ((pts l).length : Int) := by rw [← hc]; simp
     omega
 · rintro ⟨hnd, hlen⟩ s _ hs b _ hb
   rw [List.nodup_iff_count] at hnd
   have h2 : sm K (fun s => sm N (fun b => 1 - (((pts l).count (s * 512 + b) : Nat) : Int))) = 0 := by
    have e : sm K (fun s => sm N (fun b => 1 - (((pts l).count (s * 512 + b) : Nat) : Int))) = sm K (fun s => sm N (fun _ => 1)) + (-1) * sm K (fun s => sm N (fun b => (((pts l).count (s * 512 + b) : Nat) : Int))) := by
     rw [← sm_mul, ← sm_add]
     refine sm_congr fun s _ => ?_
     rw [← sm_mul, ← sm_add]
     refine sm_congr fun b _ => ?_
     omega
    rw [e, hc, hlen, sm_congr (g := fun _ => (N : Int)) (fun s hs => by rw [sm_const]; simp), sm_const]
    simp
    omega
   have hnn : ∀ s b, 0 ≤ 1 - (((pts l).count (s * 512 + b) : Nat) : Int) := fun s b => by have := hnd (s * 512 + b); omega
   have h3 := sm_zero_all (fun s _ => by
    have : ∀ n, 0 ≤ sm n (fun b => 1 - (((pts l).count (s * 512 + b) : Nat) : Int)) := by
     intro n
     induction n with
     | zero => exact Int.le_refl _
     | succ n ih => rw [sm]; have := hnn s n; omega
    exact this N) h2 s (by omega)
   have h4 := sm_zero_all (fun b _ => hnn s b) h3 b (by omega)
   omega
def planV (f K : Int) (l : List S36) : Prop := logP f K ∧ l.length ≤ 600 ∧ okS K l = true ∧ onceB K.toNat l = true
instance planV_dec (f K : Int) (l : List S36) : Decidable (planV f K l) := by unfold planV; infer_instance

theorem planV_nat2 {f K : Int} {l : List S36} (h : planV f K l) : ∃ n : Nat, K = n ∧ n ≤ 9 := by
 obtain ⟨⟨_, h0, h9, _⟩, _⟩ := h
 exact ⟨K.toNat, by omega, by omega⟩

theorem klog {K : Nat} (hK : K ≤ 9) : wrap64 (Int.tdiv (shl .i64 (K : Int) (K : Int)) 2) = ((K * 2 ^ (K - 1) : Nat) : Int) := by
 rcases (show K = 0 ∨ K = 1 ∨ K = 2 ∨ K = 3 ∨ K = 4 ∨ K = 5 ∨ K = 6 ∨ K = 7 ∨ K = 8 ∨ K = 9 by omega) with rfl | rfl | rfl | rfl | rfl | rfl | rfl | rfl | rfl | rfl <;> decide +kernel

def dnP (P : List Nat) (x : Nat) : Bool := decide (x ∈ P)
theorem dnP_set (P : List Nat) (x : Nat) : setB (dnP P) x = dnP (P ++ [x]) := by
 funext j
 unfold setB dnP
 by_cases h : j = x
 · rw [if_pos h, decide_eq_true (by rw [h]; simp)]
 · rw [if_neg h]
   exact decide_eq_decide.2 ⟨fun hh => List.mem_append_left _ hh, fun hh => (List.mem_append.1 hh).elim id (fun h2 => absurd (by simpa using h2) h)⟩
theorem iIsPlan_in {K : Nat} (hK : K ≤ 9) (f : Int) (l : List S36) (hl : l.length ≤ 600) (i : Nat) (hi : i < l.length) (s : S36) (lv en : Nat) (e1 : s.f0 = lv) (e3 : s.f2 = en) (hlv : lv < K) (hen : en ≤ 256) (A R : List Nat) (B : Nat) (hB : B ≤ 1000000) (r : Bool) (hfal : ¬ A.Nodup → r = false)
 (hr : ∀ P : List Nat, P.Nodup → A = P ++ R → P.length ≤ B → Ev (fun k => impl_isPlan.l0 k (P.length : Int) l (l.length : Int) ((i + 1 : Nat) : Int) f (K : Int) l (dnP P)) r) :
 ∀ (d b : Nat) (P : List Nat), b + d = en → P.Nodup → A = P ++ (rngP lv b d ++ R) → P.length + d ≤ B →
 Ev (fun k => impl_isPlan.l1 k (P.length : Int) (b : Int) l (l.length : Int) (i : Int) f (K : Int) l (dnP P) s.f0 s.f1 s.f2) r := by
 intro d
 induction d with
 | zero =>
  intro b P hb hP hA hlen
  have key := hr P hP (by rw [hA]; rfl) (by omega)
  refine Ev.step (fun k => ?_) key
  simp only [impl_isPlan.l1, e3]
  rw [if_neg (by omega), wsucc (by omega)]
 | succ d ih =>
  intro b P hb hP hA hlen
  have c1 : (b : Int) < (en : Int) := by omega
  have c2 : (0 : Int) ≤ (lv : Int) := by omega
  have c3 : (lv : Int) < 9 := by omega
  have c4 : (0 : Int) ≤ (b : Int) := by omega
  have c5 : (b : Int) < 512 := by omega
  rw [rngP, List.cons_append] at hA
  by_cases hx : lv * 512 + b ∈ P
  · rw [hfal (fun hnd => by
     rw [hA, List.nodup_append] at hnd
     exact hnd.2.2 _ hx _ (List.mem_cons_self ..) rfl)]
    refine ev_now fun k => ?_
    simp only [impl_isPlan.l1, e1, e3, Int.toNat_natCast, c1, c2, c3, c4, c5, if_true, dnP, decide_eq_true hx]
  · have hP2 : (P ++ [lv * 512 + b]).Nodup := by
     rw [List.nodup_append]
     exact ⟨hP, by simp, fun a ha c hc => by rw [List.mem_singleton] at hc; rw [hc]; exact fun h => hx (h ▸ ha)⟩
    have key := ih (b + 1) (P ++ [lv * 512 + b]) (by omega) hP2 (by rw [hA, List.append_assoc]; rfl) (by simp; omega)
    rw [← dnP_set, List.length_append, List.length_singleton] at key
    have hd : dnP P (lv * 512 + b) = false := decide_eq_false hx
    refine Ev.step (fun k => ?_) key
    have w1 : wrap64 ((P.length : Int) + 1) = ((P.length + 1 : Nat) : Int) := wsucc (by omega)
    have w2 : wrap64 ((b : Int) + 1) = ((b + 1 : Nat) : Int) := wsucc (by omega)
    simp only [impl_isPlan.l1, e1, e3, Int.toNat_natCast, c1, c2, c3, c4, c5, if_true, hd, Bool.false_eq_true, if_false, w1, w2]
theorem iIsPlan_l {K : Nat} (hK : K ≤ 9) (f : Int) (l : List S36) (hl : l.length ≤ 600) :
 ∀ (d i : Nat) (P : List Nat), l.length - i = d → i ≤ l.length → P.Nodup → (∀ j, j < i → okAt (K : Int) l j) → pts l = P ++ pts (l.drop i) → P.length ≤ i * 256 →
 Ev (fun k => impl_isPlan.l0 k (P.length : Int) l (l.length : Int) (i : Int) f (K : Int) l (dnP P)) (okS (K : Int) l && decide ((pts l).Nodup) && decide ((pts l).length = K * 2 ^ (K - 1))) := by
 intro d
 induction d with
 | zero =>
  intro i P hd hi hP hok hA hlen
  have hil : i = l.length := by omega
  have hokS : okS (K : Int) l = true := (allF_iff _ _ _).2 (fun j _ hj => decide_eq_true (hok j (by omega)))
  rw [List.drop_of_length_le (by omega), pts, List.append_nil] at hA
  refine ev_now fun k => ?_
  simp only [impl_isPlan.l0, klog hK]
  rw [if_neg (by omega), if_pos (by omega), hokS, hA, decide_eq_true hP]
  refine congrArg some ?_
  simp only [Bool.true_and]
  by_cases h : P.length = K * 2 ^ (K - 1)
  · rw [decide_eq_true h, h]; simp
  · rw [decide_eq_false h]
    exact beq_eq_false_iff_ne.2 (fun hh => h (by omega))
 | succ d ih =>
  intro i P hd hi hP hok hA hlen
  have hil : i < l.length := by omega
  by_cases hs : okAt (K : Int) l i
  · obtain ⟨lv, fr, en, e1, e2, e3, h1, h2, h3, h4⟩ := step_nat hK (s := rd_T36 l (i : Int)) hs.1
    have hA2 : pts l = P ++ (rngP lv fr (en - fr) ++ pts (l.drop (i + 1))) := by
     rw [hA, List.drop_eq_getElem_cons hil, pts, ← rdStep hil]
     unfold ptsOf
     rw [e1, e2, e3]
     congr 2
     congr 1
     omega
    have key := iIsPlan_in hK f l hl i hil (rd_T36 l (i : Int)) lv en e1 e3 h1 (by omega) (pts l) (pts (l.drop (i + 1))) ((i + 1) * 256) (by omega) (okS (K : Int) l && decide ((pts l).Nodup) && decide ((pts l).length = K * 2 ^ (K - 1)))
     (fun hn => by rw [decide_eq_false hn]; simp)
     (fun Q hQ hQA hQl => ih (i + 1) Q (by omega) (by omega) hQ (fun j hj => by
      by_cases hji : j = i
      · rw [hji]; exact hs
      · exact hok j (by omega)) hQA hQl)
     (en - fr) fr P (by omega) hP hA2 (by omega)
    rw [show ((fr : Nat) : Int) = (rd_T36 l (i : Int)).f1 from e2.symm] at key
    refine Ev.step (fun k => ?_) (Ev.step (g := fun k => impl_isPlan.j2 k (P.length : Int) l (l.length : Int) (i : Int) false f (K : Int) l (dnP P) (rd_T36 l (i : Int)).f0 (rd_T36 l (i : Int)).f1 (rd_T36 l (i : Int)).f2) (fun k => by simp only [impl_isPlan.j2, Bool.false_eq_true, if_false]) key)
    simp only [impl_isPlan.l0, iStep hK, decide_eq_true hs.1, Option.bind_some, if_true]
    rw [if_pos (by omega), if_pos (by omega), if_pos (by omega)]
    by_cases hi0 : 0 < i
    · have hle := hs.2 hi0
      have w1 : wrap64 ((i : Int) - 1) = ((i - 1 : Nat) : Int) := w64n (by omega) (by omega)
      rw [w1, if_pos (by clear w1; omega), if_pos (by clear w1; omega), if_pos (by clear w1; omega), decide_eq_false (by clear w1; omega)]
    · rw [if_neg (by omega)]
  · have hokS : okS (K : Int) l = false := by
     rw [← Bool.not_eq_true]
     exact fun h => hs (okS_at h hil)
    rw [hokS, Bool.false_and, Bool.false_and]
    by_cases h1 : stepP (K : Int) (rd_T36 l (i : Int)).f0 (rd_T36 l (i : Int)).f1 (rd_T36 l (i : Int)).f2
    · by_cases hi0 : 0 < i
      · have hle : ¬ ((rd_T36 l ((i - 1 : Nat) : Int)).f0 ≤ (rd_T36 l (i : Int)).f0) := fun h => hs ⟨h1, fun _ => h⟩
        refine Ev.step (f := fun k => impl_isPlan.j2 k (P.length : Int) l (l.length : Int) (i : Int) true f (K : Int) l (dnP P) (rd_T36 l (i : Int)).f0 (rd_T36 l (i : Int)).f1 (rd_T36 l (i : Int)).f2) (fun k => ?_) (ev_now fun k => by simp only [impl_isPlan.j2, if_true])
        simp only [impl_isPlan.l0, iStep hK, decide_eq_true h1, Option.bind_some, if_true]
        have w1 : wrap64 ((i : Int) - 1) = ((i - 1 : Nat) : Int) := w64n (by omega) (by omega)
        rw [if_pos (by omega), if_pos (by omega), if_pos (by omega), w1, if_pos (by clear w1; omega), if_pos (by clear w1; omega), if_pos (by clear w1; omega), decide_eq_true (by clear w1; omega)]
      · exact absurd ⟨h1, fun h => absurd h hi0⟩ hs
    · refine Ev.step (f := fun k => impl_isPlan.j2 k (P.length : Int) l (l.length : Int) (i : Int) true f (K : Int) l (dnP P) (rd_T36 l (i : Int)).f0 (rd_T36 l (i : Int)).f1 (rd_T36 l (i : Int)).f2) (fun k => ?_) (ev_now fun k => by simp only [impl_isPlan.j2, if_true])
      simp only [impl_isPlan.l0, iStep hK, decide_eq_false h1, Option.bind_some, Bool.false_eq_true, if_false]
      rw [if_pos (by omega), if_pos (by omega), if_pos (by omega)]
theorem iIsPlan_ev (f K : Int) (l : List S36) (hl : l.length ≤ 1048576) : Ev (fun k => impl_isPlan.f k f K l) (decide (planV f K l)) := by
 by_cases h : logP f K ∧ l.length ≤ 600
 · obtain ⟨⟨hf, hK0, hK9, hKT⟩, hl6⟩ := h
   obtain ⟨n, rfl⟩ := Int.eq_ofNat_of_zero_le hK0
   have key := iIsPlan_l (K := n) (by omega) f l hl6 l.length 0 [] (by omega) (by omega) (by simp) (by intro j hj; omega) rfl (by simp)
   have e : decide (planV f (n : Int) l) = (okS (n : Int) l && decide ((pts l).Nodup) && decide ((pts l).length = n * 2 ^ (n - 1))) := by
    by_cases hok : okS (n : Int) l = true
    · rw [hok, Bool.true_and, ← Bool.decide_and]
      refine decide_eq_decide.2 ?_
      rw [← once_iff (by omega) l hok]
      exact ⟨fun x => by simpa using x.2.2.2, fun x => ⟨⟨hf, hK0, hK9, hKT⟩, hl6, hok, by simpa using x⟩⟩
    · rw [Bool.not_eq_true] at hok
      rw [hok, decide_eq_false (fun x : planV _ _ _ => by have := x.2.2.1; rw [hok] at this; exact Bool.noConfusion this)]
      rfl
   rw [e]
   refine Ev.congr (f := fun k => impl_isPlan.j0 k false f (n : Int) l) (fun k => ?_) (Ev.step (fun k => ?_) key)
   · simp only [impl_isPlan.f, iFld, if_pos hf, Option.bind_some, if_true, mn_eq]
     rw [if_neg (by omega), if_neg (by split <;> omega), decide_eq_false (by omega)]
   · simp only [impl_isPlan.j0, Bool.false_eq_true, if_false]
     rfl
 · rw [decide_eq_false (fun x : planV _ _ _ => h ⟨x.1, x.2.1⟩)]
   refine Ev.congr (f := fun k => impl_isPlan.j0 k true f K l) (fun k => ?_) (ev_now fun k => by simp only [impl_isPlan.j0, if_true])
   by_cases hf : fldOk f
   · have hT := fT_range hf
     simp only [impl_isPlan.f, iFld, if_pos hf, Option.bind_some, if_true, mn_eq]
     by_cases h1 : K < 0
     · rw [if_pos h1]
     · rw [if_neg h1]
       by_cases h2 : K > (if 9 < rd fT f then 9 else rd fT f)
       · rw [if_pos h2]
       · rw [if_neg h2, decide_eq_true]
         have h3 : logP f K := by
          refine ⟨hf, by omega, ?_, ?_⟩ <;> (split at h2 <;> omega)
         have : ¬ (l.length ≤ 600) := fun hh => h ⟨h3, hh⟩
         omega
   · simp only [impl_isPlan.f, iFld, if_neg hf, Option.bind_some, Bool.false_eq_true, if_false]

def cntT (N s : Nat) (P : List Nat) : List Int := tab N (fun y => ((P.count (s * 512 + y) : Nat) : Int))
theorem cntT_one (N s b : Nat) (P : List Nat) : (cntT N s P).set b (((P.count (s * 512 + b) : Nat) : Int) + 1) = cntT N s (P ++ [s * 512 + b]) := by
 unfold cntT
 rw [tab_set]
 refine tab_congr fun y hy => ?_
 rw [List.count_append]
 by_cases h : y = b
 · rw [if_pos h, h, List.count_singleton_self]; rfl
 · rw [if_neg h, List.count_eq_zero_of_not_mem (l := [s * 512 + b]) (by simp; omega)]; rfl
theorem cntT_far (N s : Nat) (hN : N ≤ 512) (lv b d : Nat) (hbd : b + d ≤ 512) (h : lv ≠ s) (P : List Nat) : cntT N s (P ++ rngP lv b d) = cntT N s P := by
 unfold cntT
 refine tab_congr fun y hy => ?_
 rw [List.count_append, List.count_eq_zero_of_not_mem (l := rngP lv b d) (fun hm => by
  obtain ⟨z, h1, h2, h3⟩ := (rngP_mem lv d b _).1 hm
  omega)]
 rfl
theorem sIsPlan_l4 {K : Nat} (f : Int) (l : List S36) (hl : l.length ≤ 600) (N s i en : Nat) (hN : N ≤ 512) (hi : i < l.length) (e3 : (rd_T36 l (i : Int)).f2 = en) (hen : en ≤ N) (r : Bool) : ∀ (d b : Nat) (P : List Nat), b + d = en → P.length + d ≤ 1000000 →
 Ev (fun k => spec_PlanOk.l3 k (s : Int) (cntT N s (P ++ rngP s b d)) ((i + 1 : Nat) : Int) f (K : Int) l) r →
 Ev (fun k => spec_PlanOk.l4 k (s : Int) (cntT N s P) (i : Int) (b : Int) f (K : Int) l) r := by
 intro d
 induction d with
 | zero =>
  intro b P hb hP hr
  rw [rngP, List.append_nil] at hr
  refine Ev.step (fun k => ?_) hr
  simp only [spec_PlanOk.l4, e3]
  rw [if_pos (by omega), if_pos (by omega), if_neg (by omega), wsucc (by omega)]
 | succ d ih =>
  intro b P hb hP hr
  have hc : P.count (s * 512 + b) ≤ P.length := List.count_le_length
  have key := ih (b + 1) (P ++ [s * 512 + b]) (by omega) (by simp; omega) (by rw [List.append_assoc]; exact hr)
  rw [← cntT_one] at key
  refine Ev.step (fun k => ?_) key
  have hrd : rd (cntT N s P) (b : Int) = ((P.count (s * 512 + b) : Nat) : Int) := tab_rd (by omega)
  have hlen : (cntT N s P).length = N := tab_len _ _
  have w1 : wrap64 (((P.count (s * 512 + b) : Nat) : Int) + 1) = ((P.count (s * 512 + b) : Nat) : Int) + 1 := w64 (by omega) (by omega)
  have w2 : wrap64 ((b : Int) + 1) = ((b + 1 : Nat) : Int) := wsucc (by omega)
  simp only [spec_PlanOk.l4, e3, hrd, hlen, w1, w2, Int.toNat_natCast]
  rw [if_pos (by clear w1 w2; omega), if_pos (by clear w1 w2; omega), if_pos (by clear w1 w2; omega), if_pos (by clear w1 w2; omega), if_pos (by clear w1 w2; omega)]
theorem sIsPlan_l3 {K : Nat} (hK : K ≤ 9) (f : Int) (l : List S36) (hl : l.length ≤ 600) (hok : okS (K : Int) l = true) (s : Nat) (r : Bool) (hr : Ev (fun k => spec_PlanOk.l5 k (s : Int) (cntT (2 ^ (K - 1)) s (pts l)) 0 f (K : Int) l) r) :
 ∀ (d i : Nat) (P : List Nat), l.length - i = d → i ≤ l.length → pts l = P ++ pts (l.drop i) → P.length ≤ i * 256 →
 Ev (fun k => spec_PlanOk.l3 k (s : Int) (cntT (2 ^ (K - 1)) s P) (i : Int) f (K : Int) l) r := by
 intro d
 induction d with
 | zero =>
  intro i P hd hi hA hlen
  rw [List.drop_of_length_le (by omega), pts, List.append_nil] at hA
  rw [hA] at hr
  refine Ev.step (fun k => ?_) hr
  simp only [spec_PlanOk.l3]
  rw [if_neg (by omega)]
 | succ d ih =>
  intro i P hd hi hA hlen
  have hil : i < l.length := by omega
  obtain ⟨lv, fr, en, e1, e2, e3, h1, h2, h3, h4⟩ := step_nat hK (s := rd_T36 l (i : Int)) (okS_at hok hil).1
  have hA2 : pts l = (P ++ rngP lv fr (en - fr)) ++ pts (l.drop (i + 1)) := by
   rw [hA, List.drop_eq_getElem_cons hil, pts, ← rdStep hil, List.append_assoc]
   unfold ptsOf
   rw [e1, e2, e3]
   congr 2
   congr 1
   omega
  have key := ih (i + 1) _ (by omega) (by omega) hA2 (by rw [List.length_append, rngP_len]; omega)
  by_cases hs : lv = s
  · subst hs
    have k4 := sIsPlan_l4 (K := K) f l hl (2 ^ (K - 1)) lv i en (by omega) hil e3 h3 r (en - fr) fr P (by omega) (by omega) key
    rw [show ((fr : Nat) : Int) = (rd_T36 l (i : Int)).f1 from e2.symm] at k4
    refine Ev.step (fun k => ?_) k4
    simp only [spec_PlanOk.l3, e1]
    rw [if_pos (by omega), if_pos (by omega), if_pos trivial]
  · rw [cntT_far _ _ (by omega) lv fr (en - fr) (by omega) hs] at key
    refine Ev.step (fun k => ?_) key
    simp only [spec_PlanOk.l3, e1]
    rw [if_pos (by omega), if_pos (by omega), if_neg (by omega), wsucc (by omega)]
theorem sIsPlan_l5 {K : Nat} (f : Int) (l : List S36) (N s : Nat) (hN : N ≤ 512) (hs : s ≤ 512) (A : List Nat) (r : Bool) (hr : Ev (fun k => spec_PlanOk.l1 k ((s + 1 : Nat) : Int) f (K : Int) l) r) : ∀ (d b : Nat), N - b = d → b ≤ N →
 Ev (fun k => spec_PlanOk.l5 k (s : Int) (cntT N s A) (b : Int) f (K : Int) l) (allF d b (fun b => decide (A.count (s * 512 + b) = 1)) && r) := by
 have hlen : (cntT N s A).length = N := tab_len _ _
 intro d
 induction d with
 | zero =>
  intro b hd hb
  refine Ev.step (fun k => ?_) hr
  simp only [spec_PlanOk.l5, hlen]
  rw [if_neg (by omega), wsucc (by omega)]
 | succ d ih =>
  intro b hd hb
  have hrd : rd (cntT N s A) (b : Int) = ((A.count (s * 512 + b) : Nat) : Int) := tab_rd (by omega)
  rw [allF]
  by_cases h : A.count (s * 512 + b) = 1
  · rw [decide_eq_true h, Bool.true_and]
    refine Ev.step (fun k => ?_) (ih (b + 1) (by omega) (by omega))
    simp only [spec_PlanOk.l5, hlen, hrd]
    rw [if_pos (by omega), if_pos (by omega), if_pos (by omega), wsucc (by omega)]
  · rw [decide_eq_false h, Bool.false_and, Bool.false_and]
    refine ev_now fun k => ?_
    simp only [spec_PlanOk.l5, hlen, hrd]
    rw [if_pos (by omega), if_pos (by omega), if_neg (by omega)]
theorem sIsPlan_l2 {K : Nat} (hK1 : 1 ≤ K) (hK : K ≤ 9) (f : Int) (l : List S36) (s : Nat) (r : Bool) (hr : Ev (fun k => spec_PlanOk.l3 k (s : Int) (cntT (2 ^ (K - 1)) s []) 0 f (K : Int) l) r) : ∀ (d b : Nat), 2 ^ (K - 1) - b = d → b ≤ 2 ^ (K - 1) →
 Ev (fun k => spec_PlanOk.l2 k (s : Int) (cntT b s []) (b : Int) f (K : Int) l) r := by
 have hh := shl_half (k := (K : Int)) (by omega) (by omega)
 have hp := (shl_pow (i := K) (by omega)).2.2
 have hhK : halfK (K : Int) = ((2 ^ (K - 1) : Nat) : Int) := by unfold halfK; rw [Int.toNat_natCast]; simp
 have h9 := pow2_9 (K := K - 1) (by omega)
 rw [hhK] at hh
 generalize 2 ^ (K - 1) = N at *
 intro d
 induction d with
 | zero =>
  intro b hd hb
  obtain rfl : b = N := by omega
  refine Ev.step (fun k => ?_) hr
  simp only [spec_PlanOk.l2, hh.2.1]
  rw [if_pos hp, if_neg (by omega)]
 | succ d ih =>
  intro b hd hb
  have key := ih (b + 1) (by omega) (by omega)
  have e : cntT (b + 1) s [] = cntT b s [] ++ [0] := by unfold cntT; rw [← tab_snoc]; simp
  rw [e] at key
  refine Ev.step (fun k => ?_) key
  have hlen : (cntT b s []).length = b := tab_len _ _
  simp only [spec_PlanOk.l2, hh.2.1, hlen]
  rw [if_pos hp, if_pos (by omega), if_pos (by omega), wsucc (by omega)]
theorem sIsPlan_l1 {K : Nat} (hK : K ≤ 9) (f : Int) (l : List S36) (hl : l.length ≤ 600) (hok : okS (K : Int) l = true) : ∀ (d s : Nat), K - s = d → s ≤ K →
 Ev (fun k => spec_PlanOk.l1 k (s : Int) f (K : Int) l) (allF d s (fun s => allF (2 ^ (K - 1)) 0 (fun b => decide ((pts l).count (s * 512 + b) = 1)))) := by
 intro d
 induction d with
 | zero =>
  intro s hd hs
  refine ev_now fun k => ?_
  simp only [spec_PlanOk.l1]
  rw [if_neg (by omega)]; rfl
 | succ d ih =>
  intro s hd hs
  have h9 := pow2_9 (K := K - 1) (by omega)
  have k5 := sIsPlan_l5 (K := K) f l (2 ^ (K - 1)) s h9.1 (by omega) (pts l) _ (ih (s + 1) (by omega) (by omega)) (2 ^ (K - 1)) 0 (by omega) (by omega)
  have k3 := sIsPlan_l3 hK f l hl hok s _ k5 l.length 0 [] (by omega) (by omega) rfl (by simp)
  have k2 := sIsPlan_l2 (by omega) hK f l s _ k3 (2 ^ (K - 1)) 0 (by omega) (by omega)
  rw [allF]
  refine Ev.step (fun k => ?_) k2
  simp only [spec_PlanOk.l1]
  rw [if_pos (by omega)]
  rfl
theorem sIsPlan_l0 {K : Nat} (hK : K ≤ 9) (f : Int) (l : List S36) (hl : l.length ≤ 600) : ∀ (d i : Nat), l.length - i = d → i ≤ l.length → (∀ j, j < i → okAt (K : Int) l j) →
 Ev (fun k => spec_PlanOk.l0 k (i : Int) f (K : Int) l) (okS (K : Int) l && onceB K l) := by
 intro d
 induction d with
 | zero =>
  intro i hd hi hok
  have hokS : okS (K : Int) l = true := (allF_iff _ _ _).2 (fun j _ hj => decide_eq_true (hok j (by omega)))
  have key := sIsPlan_l1 hK f l hl hokS K 0 (by omega) (by omega)
  rw [hokS, Bool.true_and]
  refine Ev.step (fun k => ?_) key
  simp only [spec_PlanOk.l0]
  rw [if_neg (by omega)]
  rfl
 | succ d ih =>
  intro i hd hi hok
  have hil : i < l.length := by omega
  by_cases hs : okAt (K : Int) l i
  · refine Ev.step (fun k => ?_) (ih (i + 1) (by omega) (by omega) (fun j hj => by
     by_cases hji : j = i
     · rw [hji]; exact hs
     · exact hok j (by omega)))
    simp only [spec_PlanOk.l0, sStep hK, decide_eq_true hs.1, Option.bind_some, if_true]
    rw [if_pos (by omega), if_pos (by omega), wsucc (by omega)]
    by_cases hi0 : 0 < i
    · have hle := hs.2 hi0
      have w1 : wrap64 ((i : Int) - 1) = ((i - 1 : Nat) : Int) := w64n (by omega) (by omega)
      rw [w1, if_pos (by clear w1; omega), if_pos (by clear w1; omega), if_pos (by clear w1; omega), if_neg (by clear w1; omega)]
    · rw [if_neg (by omega)]
  · have hokS : okS (K : Int) l = false := by
     rw [← Bool.not_eq_true]
     exact fun h => hs (okS_at h hil)
    rw [hokS, Bool.false_and]
    refine ev_now fun k => ?_
    by_cases h1 : stepP (K : Int) (rd_T36 l (i : Int)).f0 (rd_T36 l (i : Int)).f1 (rd_T36 l (i : Int)).f2
    · by_cases hi0 : 0 < i
      · have hle : ¬ ((rd_T36 l ((i - 1 : Nat) : Int)).f0 ≤ (rd_T36 l (i : Int)).f0) := fun h => hs ⟨h1, fun _ => h⟩
        have w1 : wrap64 ((i : Int) - 1) = ((i - 1 : Nat) : Int) := w64n (by omega) (by omega)
        simp only [spec_PlanOk.l0, sStep hK, decide_eq_true h1, Option.bind_some, if_true, w1]
        rw [if_pos (by clear w1; omega), if_pos (by clear w1; omega), if_pos (by clear w1; omega), if_pos (by clear w1; omega), if_pos (by clear w1; omega), if_pos (by clear w1; omega)]
      · exact absurd ⟨h1, fun h => absurd h hi0⟩ hs
    · simp only [spec_PlanOk.l0, sStep hK, decide_eq_false h1, Option.bind_some, Bool.false_eq_true, if_false]
      rw [if_pos (by omega), if_pos (by omega)]
theorem sIsPlan_ev (f K : Int) (l : List S36) (hl : l.length ≤ 1048576) : Ev (fun k => spec_PlanOk.f k f K l) (decide (planV f K l)) := by
 obtain ⟨m, em⟩ := evs1 (sLog_ev f K)
 by_cases h : logP f K
 · have h' := h
   obtain ⟨hf, hK0, hK9, hKT⟩ := h'
   obtain ⟨n, rfl⟩ := Int.eq_ofNat_of_zero_le hK0
   by_cases hl6 : l.length ≤ 600
   · have key := sIsPlan_l0 (K := n) (by omega) f l hl6 l.length 0 (by omega) (by omega) (by intro j hj; omega)
     have e : decide (planV f (n : Int) l) = (okS (n : Int) l && onceB n l) := by
      rw [← Bool.decide_coe (okS (n : Int) l && onceB n l)]
      refine decide_eq_decide.2 ⟨fun x => ?_, fun x => ?_⟩
      · have h3 := x.2.2.1
        have h4 := x.2.2.2
        rw [Int.toNat_natCast] at h4
        rw [h3, h4]; rfl
      · rw [Bool.and_eq_true] at x
        exact ⟨h, hl6, x.1, by rw [Int.toNat_natCast]; exact x.2⟩
     rw [e]
     have key2 : Ev (fun k => spec_PlanOk.j0 k false f (n : Int) l) (okS (n : Int) l && onceB n l) := Ev.step (fun k => by simp only [spec_PlanOk.j0, Bool.false_eq_true, if_false]; rfl) key
     obtain ⟨m2, e2⟩ := evs1 key2
     refine ⟨m + m2, fun k hk => ?_⟩
     obtain ⟨j, rfl⟩ : ∃ j, k = m + m2 + j := ⟨k - (m + m2), by omega⟩
     have em' := em (m2 + j)
     rw [← Nat.add_assoc] at em'
     have e2' := e2 (m + j)
     rw [← Nat.add_assoc, Nat.add_comm m2 m] at e2'
     simp only [spec_PlanOk.f, em', decide_eq_true h, Option.bind_some, if_true, decide_eq_false (show ¬ ((l.length : Int) > 600) by omega), e2']
   · refine ⟨m + 1, fun k hk => ?_⟩
     obtain ⟨j, rfl⟩ : ∃ j, k = m + j + 1 := ⟨k - m - 1, by omega⟩
     have em' := em (j + 1)
     rw [← Nat.add_assoc] at em'
     simp only [spec_PlanOk.f, em', decide_eq_true h, Option.bind_some, if_true, decide_eq_true (show ((l.length : Int) > 600) by omega), spec_PlanOk.j0]
     rw [decide_eq_false (fun x : planV _ _ _ => hl6 x.2.1)]
 · refine ⟨m + 1, fun k hk => ?_⟩
   obtain ⟨j, rfl⟩ : ∃ j, k = m + j + 1 := ⟨k - m - 1, by omega⟩
   have em' := em (j + 1)
   rw [← Nat.add_assoc] at em'
   simp only [spec_PlanOk.f, em', decide_eq_false h, Option.bind_some, Bool.false_eq_true, if_false, spec_PlanOk.j0, if_true]
   rw [decide_eq_false (fun x : planV _ _ _ => h x.1)]

def splL (most : Int) : List S36 → List S36
 | [] => []
 | s :: r => cut s.f0 most s.f1 s.f2 ++ splL most r
def splitR (f K : Int) (l : List S36) (most : Int) : Int × Int × List S36 × Bool :=
 if planV f K l ∧ 1 ≤ most ∧ (splL most l).length ≤ 600 then (f, K, splL most l, true) else (0, 0, [], false)
theorem take_take2 {α : Type} (a b : List α) (n : Nat) : (a.take n ++ b).take n = (a ++ b).take n := by
 rw [List.take_append, List.take_append, List.length_take, List.take_take, Nat.min_self]
 congr 1
 by_cases h : a.length ≤ n
 · rw [Nat.min_eq_right h]
 · rw [show n - min n a.length = 0 by omega, show n - a.length = 0 by omega]
theorem sSplit_l {K : Nat} (hK : K ≤ 9) {f most : Int} (hm : 1 ≤ most) (l : List S36) (hl : l.length ≤ 600) (hok : okS (K : Int) l = true) : ∀ (d i : Nat) (acc : List S36), l.length - i = d → i ≤ l.length → acc.length ≤ 601 →
 Ev (fun n => spec_SplitPlan.l0 n most acc (i : Int) f (K : Int) l) (if ((acc ++ splL most (l.drop i)).take 601).length > 600 then (0, 0, [], false) else (f, (K : Int), (acc ++ splL most (l.drop i)).take 601, true)) := by
 intro d
 induction d with
 | zero =>
  intro i acc h hi ha
  refine ev_now fun n => ?_
  rw [List.drop_of_length_le (by omega), splL, List.append_nil]
  simp only [spec_SplitPlan.l0]
  rw [List.take_of_length_le ha, if_neg (by omega)]
  by_cases hl : acc.length > 600
  · rw [if_pos (by omega), if_pos hl]
  · rw [if_neg (by omega), if_neg hl]
 | succ d ih =>
  intro i acc h hi ha
  have hil : i < l.length := by omega
  obtain ⟨lv, fr, en, e1, e2, e3, h1, h2, h3, h4⟩ := step_nat hK (s := rd_T36 l (i : Int)) (okS_at hok hil).1
  have key := ih (i + 1) ((acc ++ cut (rd_T36 l (i : Int)).f0 most (rd_T36 l (i : Int)).f1 (rd_T36 l (i : Int)).f2).take 601) (by omega) (by omega) (by rw [List.length_take]; omega)
  rw [take_take2, List.append_assoc] at key
  rw [List.drop_eq_getElem_cons hil, splL, ← rdStep hil]
  refine Ev.step (fun n => ?_) (Ev.bind (sCut_ev (lv := (rd_T36 l (i : Int)).f0) (fr := (rd_T36 l (i : Int)).f1) (en := (rd_T36 l (i : Int)).f2) hm (by omega) (by omega) acc ha) (f := fun n t => spec_SplitPlan.l0 n most t ((i + 1 : Nat) : Int) f (K : Int) l) key)
  simp only [spec_SplitPlan.l0]
  rw [if_pos (by omega), if_pos (by omega), wsucc (by omega)]
theorem sSplitPlan_ev (f K : Int) (l : List S36) (most : Int) (hl : l.length ≤ 1048576) : Ev (fun n => spec_SplitPlan.f n f K l most) (splitR f K l most) := by
 obtain ⟨m, e⟩ := evs1 (sIsPlan_ev f K l hl)
 have no : Ev (fun n => spec_SplitPlan.j0 n most true f K l) (0, 0, [], false) := ev_now fun n => by simp [spec_SplitPlan.j0]
 unfold splitR
 by_cases h : planV f K l
 · by_cases hm : 1 ≤ most
   · obtain ⟨q, rfl, hq⟩ := planV_nat2 h
     have key := sSplit_l hq (f := f) hm l h.2.1 h.2.2.1 l.length 0 [] (by omega) (by omega) (by simp)
     rw [List.nil_append, List.drop_zero] at key
     have key2 : Ev (fun n => spec_SplitPlan.j0 n most false f (q : Int) l) (if planV f (q : Int) l ∧ 1 ≤ most ∧ (splL most l).length ≤ 600 then (f, (q : Int), splL most l, true) else (0, 0, [], false)) := by
      refine Ev.step (f := fun n => spec_SplitPlan.l0 n most [] ((0 : Nat) : Int) f (q : Int) l) (fun n => by simp [spec_SplitPlan.j0]) ?_
      by_cases hx : (splL most l).length ≤ 600
      · rw [List.take_of_length_le (by omega), if_neg (by omega)] at key
        rw [if_pos ⟨h, hm, hx⟩]
        exact key
      · rw [if_pos (by rw [List.length_take]; omega)] at key
        rw [if_neg (fun hh => hx hh.2.2)]
        exact key
     obtain ⟨m2, e2⟩ := evs1 key2
     refine ⟨m + m2, fun n hn => ?_⟩
     obtain ⟨j, rfl⟩ : ∃ j, n = m + j := ⟨n - m, by omega⟩
     obtain ⟨j2, hj2⟩ : ∃ j2, m + j = m2 + j2 := ⟨m + j - m2, by omega⟩
     simp only [spec_SplitPlan.f, e, Option.bind_some, decide_eq_true h, if_true]
     rw [decide_eq_false (by omega), hj2, e2]
   · rw [if_neg (fun hh => hm hh.2.1)]
     obtain ⟨m2, e2⟩ := evs1 no
     refine ⟨m + m2, fun n hn => ?_⟩
     obtain ⟨j, rfl⟩ : ∃ j, n = m + j := ⟨n - m, by omega⟩
     obtain ⟨j2, hj2⟩ : ∃ j2, m + j = m2 + j2 := ⟨m + j - m2, by omega⟩
     simp only [spec_SplitPlan.f, e, Option.bind_some, decide_eq_true h, if_true]
     rw [decide_eq_true (by omega), hj2, e2]
 · rw [if_neg (fun hh => h hh.1)]
   obtain ⟨m2, e2⟩ := evs1 no
   refine ⟨m + m2, fun n hn => ?_⟩
   obtain ⟨j, rfl⟩ : ∃ j, n = m + j := ⟨n - m, by omega⟩
   obtain ⟨j2, hj2⟩ : ∃ j2, m + j = m2 + j2 := ⟨m + j - m2, by omega⟩
   simp only [spec_SplitPlan.f, e, Option.bind_some, decide_eq_false h, Bool.false_eq_true, if_false]
   rw [hj2, e2]

theorem iSplit_l {K : Nat} (hK : K ≤ 9) {f most : Int} (hm : 1 ≤ most) (l : List S36) (hl : l.length ≤ 600) (hok : okS (K : Int) l = true) : ∀ (d i : Nat) (acc : List S36), l.length - i = d → i ≤ l.length → acc.length ≤ i * 256 →
 Ev (fun n => impl_SplitPlan.l0 n most l (l.length : Int) (i : Int) f (K : Int) acc) (if (acc ++ splL most (l.drop i)).length > 600 then (0, 0, [], false) else (f, (K : Int), acc ++ splL most (l.drop i), true)) := by
 intro d
 induction d with
 | zero =>
  intro i acc h hi ha
  refine ev_now fun n => ?_
  rw [List.drop_of_length_le (by omega), splL, List.append_nil]
  simp only [impl_SplitPlan.l0]
  rw [if_neg (by omega)]
  by_cases hl : acc.length > 600
  · rw [if_pos (by omega), if_pos hl]
  · rw [if_neg (by omega), if_neg hl]
 | succ d ih =>
  intro i acc h hi ha
  have hil : i < l.length := by omega
  obtain ⟨lv, fr, en, e1, e2, e3, h1, h2, h3, h4⟩ := step_nat hK (s := rd_T36 l (i : Int)) (okS_at hok hil).1
  have c := cut_len (lv := (rd_T36 l (i : Int)).f0) (en := (rd_T36 l (i : Int)).f2) hm ((rd_T36 l (i : Int)).f2 - (rd_T36 l (i : Int)).f1).toNat (rd_T36 l (i : Int)).f1
  have c' : (cut (rd_T36 l (i : Int)).f0 most (rd_T36 l (i : Int)).f1 (rd_T36 l (i : Int)).f2).length ≤ 256 := by unfold cut; omega
  have key := ih (i + 1) (acc ++ cut (rd_T36 l (i : Int)).f0 most (rd_T36 l (i : Int)).f1 (rd_T36 l (i : Int)).f2) (by omega) (by omega) (by rw [List.length_append]; omega)
  rw [List.append_assoc] at key
  rw [List.drop_eq_getElem_cons hil, splL, ← rdStep hil]
  refine Ev.step (fun n => ?_) (Ev.bind (iRanges_ev (lv := (rd_T36 l (i : Int)).f0) (fr := (rd_T36 l (i : Int)).f1) (en := (rd_T36 l (i : Int)).f2) hm (by omega) (by omega)) (f := fun n t => if acc.length + t.length < 5864062014805 then impl_SplitPlan.l0 n most l (l.length : Int) ((i + 1 : Nat) : Int) f (K : Int) (acc ++ t) else none) ?_)
  · simp only [impl_SplitPlan.l0]
    rw [if_pos (by omega), if_pos (by omega), if_pos (by omega), wsucc (by omega)]
  · exact Ev.congr (fun n => if_pos (by omega)) key
theorem iSplitPlan_ev (f K : Int) (l : List S36) (most : Int) (hl : l.length ≤ 1048576) : Ev (fun n => impl_SplitPlan.f n f K l most) (splitR f K l most) := by
 obtain ⟨m, e⟩ := evs1 (iIsPlan_ev f K l hl)
 have no : Ev (fun n => impl_SplitPlan.j0 n most true f K l) (0, 0, [], false) := ev_now fun n => by simp [impl_SplitPlan.j0]
 unfold splitR
 by_cases h : planV f K l
 · by_cases hm : 1 ≤ most
   · obtain ⟨q, rfl, hq⟩ := planV_nat2 h
     have key := iSplit_l hq (f := f) hm l h.2.1 h.2.2.1 l.length 0 [] (by omega) (by omega) (by simp)
     rw [List.nil_append, List.drop_zero] at key
     have key2 : Ev (fun n => impl_SplitPlan.j0 n most false f (q : Int) l) (if planV f (q : Int) l ∧ 1 ≤ most ∧ (splL most l).length ≤ 600 then (f, (q : Int), splL most l, true) else (0, 0, [], false)) := by
      refine Ev.step (f := fun n => impl_SplitPlan.l0 n most l (l.length : Int) ((0 : Nat) : Int) f (q : Int) []) (fun n => by simp [impl_SplitPlan.j0]) ?_
      by_cases hx : (splL most l).length ≤ 600
      · rw [if_neg (by omega)] at key
        rw [if_pos ⟨h, hm, hx⟩]
        exact key
      · rw [if_pos (by omega)] at key
        rw [if_neg (fun hh => hx hh.2.2)]
        exact key
     obtain ⟨m2, e2⟩ := evs1 key2
     refine ⟨m + m2, fun n hn => ?_⟩
     obtain ⟨j, rfl⟩ : ∃ j, n = m + j := ⟨n - m, by omega⟩
     obtain ⟨j2, hj2⟩ : ∃ j2, m + j = m2 + j2 := ⟨m + j - m2, by omega⟩
     simp only [impl_SplitPlan.f, e, Option.bind_some, decide_eq_true h, if_true]
     rw [decide_eq_false (by omega), hj2, e2]
   · rw [if_neg (fun hh => hm hh.2.1)]
     obtain ⟨m2, e2⟩ := evs1 no
     refine ⟨m + m2, fun n hn => ?_⟩
     obtain ⟨j, rfl⟩ : ∃ j, n = m + j := ⟨n - m, by omega⟩
     obtain ⟨j2, hj2⟩ : ∃ j2, m + j = m2 + j2 := ⟨m + j - m2, by omega⟩
     simp only [impl_SplitPlan.f, e, Option.bind_some, decide_eq_true h, if_true]
     rw [decide_eq_true (by omega), hj2, e2]
 · rw [if_neg (fun hh => h hh.1)]
   obtain ⟨m2, e2⟩ := evs1 no
   refine ⟨m + m2, fun n hn => ?_⟩
   obtain ⟨j, rfl⟩ : ∃ j, n = m + j := ⟨n - m, by omega⟩
   obtain ⟨j2, hj2⟩ : ∃ j2, m + j = m2 + j2 := ⟨m + j - m2, by omega⟩
   simp only [impl_SplitPlan.f, e, Option.bind_some, decide_eq_false h, Bool.false_eq_true, if_false]
   rw [hj2, e2]

theorem sFwdPow_l {f : Int} (hf : fldOk f) (v : List Int) (z : Int) (hz : 0 ≤ z) (hz' : z < mdP f) (r : List Int) (n : Nat) (hn : n ≤ 1048576)
 (hr : Ev (fun k => spec_l04Sum.l1 k v (mdP f) (n : Int) (tab n (fun e => z ^ e % mdP f)) [] 0) r) : ∀ (d i : Nat), n - i = d → i ≤ n →
 Ev (fun k => spec_l04Sum.l0 k v z (mdP f) (n : Int) (tab i (fun e => z ^ e % mdP f)) (z ^ i % mdP f) (i : Int)) r := by
 have hm := mdP_range hf
 have m0 : ∀ z : Int, 0 ≤ z % mdP f ∧ z % mdP f < mdP f := fun z => ⟨Int.emod_nonneg _ (by omega), Int.emod_lt_of_pos _ (by omega)⟩
 intro d
 induction d with
 | zero =>
  intro i h hi
  refine Ev.step (fun k => ?_) hr
  simp only [spec_l04Sum.l0]
  rw [if_neg (by omega), show i = n by omega]
 | succ d ih =>
  intro i h hi
  have key := ih (i + 1) (by omega) (by omega)
  rw [← tab_snoc] at key
  have r2 := m0 (z ^ i)
  have h0 : 0 ≤ z ^ i % mdP f * z := Int.mul_nonneg r2.1 hz
  have h1 : z ^ i % mdP f * z ≤ 2147483648 * 2147483648 := Int.mul_le_mul (by omega) (by omega) hz (by omega)
  have e2 : Int.tmod (wrap64 (z ^ i % mdP f * z)) (mdP f) = z ^ (i + 1) % mdP f := by
   rw [w64 (by omega) (by omega), Int.tmod_eq_emod_of_nonneg h0, Int.pow_succ]; exact ((Md.mod _ _).mul (Md.refl _ _)).emod
  refine Ev.step (fun k => ?_) key
  simp only [spec_l04Sum.l0, e2, tab_len]
  rw [if_pos (by omega), if_pos (by omega), if_neg (by omega), wsucc (by omega)]
theorem fw_idx {n j i : Nat} (hn1 : 1 ≤ n) (hn9 : n ≤ 512) (hj : j < n) (hi : i < n) : Int.tmod (wrap64 ((j : Int) * (i : Int))) (n : Int) = ((j * i % n : Nat) : Int) := by
 have hb : j * i ≤ 512 * 512 := Nat.mul_le_mul (by omega) (by omega)
 have w3 : wrap64 ((j : Int) * (i : Int)) = ((j * i : Nat) : Int) := w64n (by simp) (by omega)
 rw [w3, Int.tmod_eq_emod_of_nonneg (Int.natCast_nonneg _)]
 exact (Int.natCast_emod _ _).symm
theorem fw_acc {p S a b : Int} (hp : 0 < p) (h : 0 ≤ S) (h' : S < p) (hp2 : p ≤ 2147483648) (h0 : 0 ≤ a * b) (h1 : a * b ≤ 2147483648 * 2147483648) : Int.tmod (wrap64 (S + wrap64 (a * b))) p = (S + a * b) % p := by
 generalize a * b = c at *
 rw [w64 (x := c) (by omega) (by omega), w64 (by omega) (by omega), Int.tmod_eq_emod_of_nonneg (by omega)]
theorem fw_suc {n i : Nat} (hn9 : n ≤ 512) (hi : i < n) : wrap64 ((i : Int) + 1) = ((i + 1 : Nat) : Int) := wsucc (by omega)
theorem sFwdSum_l {f : Int} (hf : fldOk f) (v out : List Int) (z : Int) (r : List Int) (n : Nat) (hn1 : 1 ≤ n) (hn9 : n ≤ 512) (hv : v.length = n) (hel : ∀ i : Nat, i < v.length → 0 ≤ rd v (i : Int) ∧ rd v (i : Int) < mdP f) (j : Nat) (hj : j < n)
 (hlen : out.length < 17592186044416)
 (hr : Ev (fun k => spec_l04Sum.l1 k v (mdP f) (n : Int) (tab n (fun e => z ^ e % mdP f)) (out ++ [sm n (fun m => rd v (m : Int) * (z ^ (j * m % n) % mdP f)) % mdP f]) ((j + 1 : Nat) : Int)) r) : ∀ (d i : Nat), n - i = d → i ≤ n →
 Ev (fun k => spec_l04Sum.l2 k v (mdP f) (n : Int) (tab n (fun e => z ^ e % mdP f)) out (j : Int) (sm i (fun m => rd v (m : Int) * (z ^ (j * m % n) % mdP f)) % mdP f) (i : Int)) r := by
 have hm := mdP_range hf
 have m0 : ∀ z : Int, 0 ≤ z % mdP f ∧ z % mdP f < mdP f := fun z => ⟨Int.emod_nonneg _ (by omega), Int.emod_lt_of_pos _ (by omega)⟩
 intro d
 induction d with
 | zero =>
  intro i h hi
  have ei : i = n := by omega
  subst ei
  refine Ev.step (fun k => ?_) hr
  simp only [spec_l04Sum.l2]
  rw [if_neg (by omega), if_pos hlen, wsucc (by omega)]
 | succ d ih =>
  intro i h hi
  have key := ih (i + 1) (by omega) (by omega)
  have r1 := hel i (by omega)
  have r2 := m0 (z ^ (j * i % n))
  have r3 := m0 (sm i (fun m => rd v (m : Int) * (z ^ (j * m % n) % mdP f)))
  have hlt : j * i % n < n := Nat.mod_lt _ (by omega)
  have h0 : 0 ≤ rd v (i : Int) * (z ^ (j * i % n) % mdP f) := Int.mul_nonneg r1.1 r2.1
  have h1 : rd v (i : Int) * (z ^ (j * i % n) % mdP f) ≤ 2147483648 * 2147483648 := Int.mul_le_mul (by omega) (by omega) r2.1 (by omega)
  have hrd : rd (tab n (fun e => z ^ e % mdP f)) ((j * i % n : Nat) : Int) = z ^ (j * i % n) % mdP f := tab_rd hlt
  have e3 : (sm i (fun m => rd v (m : Int) * (z ^ (j * m % n) % mdP f)) % mdP f + rd v (i : Int) * (z ^ (j * i % n) % mdP f)) % mdP f = sm (i + 1) (fun m => rd v (m : Int) * (z ^ (j * m % n) % mdP f)) % mdP f := by
   rw [sm]; exact ((Md.mod _ _).add (Md.refl _ _)).emod
  rw [← e3] at key
  generalize sm i (fun m => rd v (m : Int) * (z ^ (j * m % n) % mdP f)) % mdP f = S at *
  generalize hP : z ^ (j * i % n) % mdP f = P at *
  have hi' : i < n := by omega
  obtain ⟨c1, c2, c3, c4, c5, c6, c7⟩ : (i : Int) < (n : Int) ∧ 0 ≤ (i : Int) ∧ (i : Int) < (v.length : Int) ∧ ¬ ((n : Int) = 0) ∧ 0 ≤ ((j * i % n : Nat) : Int) ∧ ((j * i % n : Nat) : Int) < ((n : Nat) : Int) ∧ ¬ (mdP f = 0) := by
   clear key
   refine ⟨by omega, by omega, by omega, by omega, by omega, by omega, by omega⟩
  have hidx := fw_idx hn1 hn9 hj hi'
  have w5 := fw_acc (p := mdP f) (by clear hidx; omega) r3.1 r3.2 (by clear hidx; omega) h0 h1
  have w6 : wrap64 ((i : Int) + 1) = ((i + 1 : Nat) : Int) := fw_suc hn9 hi'
  refine Ev.step (fun k => ?_) key
  simp only [spec_l04Sum.l2, hidx, w5, w6, hrd, tab_len, c1, c2, c3, c4, c5, c6, c7, if_true, if_false]
theorem sFwdOut_l {f : Int} (hf : fldOk f) (v : List Int) (z : Int) (n : Nat) (hn1 : 1 ≤ n) (hn9 : n ≤ 512) (hv : v.length = n) (hel : ∀ i : Nat, i < v.length → 0 ≤ rd v (i : Int) ∧ rd v (i : Int) < mdP f) : ∀ (d j : Nat), n - j = d → j ≤ n →
 Ev (fun k => spec_l04Sum.l1 k v (mdP f) (n : Int) (tab n (fun e => z ^ e % mdP f)) (tab j (fun j => sm n (fun m => rd v (m : Int) * (z ^ (j * m % n) % mdP f)) % mdP f)) (j : Int)) (tab n (fun j => sm n (fun m => rd v (m : Int) * (z ^ (j * m % n) % mdP f)) % mdP f)) := by
 intro d
 induction d with
 | zero =>
  intro j h hj
  refine ev_now fun k => ?_
  simp only [spec_l04Sum.l1]
  rw [if_neg (by omega), show j = n by omega]
 | succ d ih =>
  intro j h hj
  have key := ih (j + 1) (by omega) (by omega)
  rw [← tab_snoc] at key
  have k1 := sFwdSum_l hf v _ z _ n hn1 hn9 hv hel j (by omega) (by rw [tab_len]; omega) key n 0 (by omega) (by omega)
  refine Ev.step (fun k => ?_) k1
  simp only [spec_l04Sum.l1]
  rw [if_pos (by omega)]
  simp only [sm, Int.zero_emod]
  rfl
theorem sSum_ev {f : Int} (hf : fldOk f) (K : Nat) (hK9 : K ≤ 9) (hKT : (K : Int) ≤ rd fT f) (v : List Int) (hn : v.length = 2 ^ K) (hel : ∀ i : Nat, i < v.length → 0 ≤ rd v (i : Int) ∧ rd v (i : Int) < mdP f) :
 Ev (fun k => spec_l04Sum.f k f v (rt f K)) (tab v.length (fwd f K v)) := by
 have h9 := pow2_9 hK9
 have hm := mdP_range hf
 have hT := fT_range hf
 have hrt := rt_range hf K
 have hme := md_eq hf
 have k1 := sFwdOut_l hf v (rt f K) v.length (by omega) (by omega) rfl hel v.length 0 (by omega) (by omega)
 have k3 := sFwdPow_l hf v (rt f K) hrt.1 hrt.2 _ v.length (by omega) k1 v.length 0 (by omega) (by omega)
 rw [Int.pow_zero, Int.emod_eq_of_lt (by omega) (by omega)] at k3
 have e : tab v.length (fun j => sm v.length (fun m => rd v (m : Int) * (rt f K ^ (j * m % v.length) % mdP f)) % mdP f) = tab v.length (fwd f K v) := by
  refine tab_congr fun j hj => ?_
  unfold fwd dft
  rw [← hn]
  refine Md.emod (Md.sm fun m _ => (Md.refl _ _).mul ((Md.mod _ _).trans (pow_per ?_ _)))
  rw [hn]
  exact (roots hf).full_pow K (by omega)
 rw [e] at k3
 refine Ev.congr (fun k => ?_) k3
 simp only [spec_l04Sum.f, sMod, ← hme, Option.bind_some]
 rfl

theorem sForward_ev {f : Int} {v : List Int} (h : vecP f v) {K : Nat} (hK9 : K ≤ 9) (hlog : logB (v.length : Int) = K) (hn : v.length = 2 ^ K) (hKT : (K : Int) ≤ rd fT f) : Ev (fun k => spec_Forward.f k f v) (tab v.length (fwd f K v)) := by
 have h9 := pow2_9 hK9
 obtain ⟨n, e1, e2, e3, e4⟩ := evs4 (sVec_ev f v (by omega)) (sLogOf_ev (v.length : Int)) (sRoot_ev h.1 K hKT) (sSum_ev h.1 K hK9 hKT v hn (vec_el h))
 refine ⟨n, fun k hk => ?_⟩
 obtain ⟨j, rfl⟩ : ∃ j, k = n + j := ⟨k - n, by omega⟩
 simp only [spec_Forward.f, e1 j, decide_eq_true h, if_true, e2 j, hlog, e3 j, e4 j, Option.bind_some]

theorem iRunS_ev {f : Int} (hf : fldOk f) (L m : Nat) (hK9 : L + 1 + m ≤ 9) (v : List Int) (hel : ∀ i : Nat, i < v.length → 0 ≤ rd v (i : Int) ∧ rd v (i : Int) < mdP f) (hn : v.length = 2 ^ (L + 1 + m)) (F E : Nat) (hFE : F ≤ E) (hE : E ≤ 2 ^ (L + m)) :
 Ev (fun k => impl_field_runStep.f k (mdP f) (rd fG f) (rd fT f) v (L : Int) (F : Int) (E : Int)) (runL f L v (E - F) F v) := by
 have hn9 := (pow2_9 hK9).1
 have hnH : v.length = 2 ^ L * (2 * 2 ^ m) := by rw [hn, Nat.pow_add, Nat.pow_succ]; rw [Nat.mul_assoc]
 have hsh := shl_pow (i := L) (by omega)
 have hsl : shl .i64 1 (L : Int) = ((2 ^ L : Nat) : Int) := by rw [hsh.1]; simp
 have key := iRunStep_l hf L m v hel hnH (by omega) (2 ^ L) rfl E (by rw [← Nat.pow_add]; omega) (L : Int) (F : Int) (E - F) F v rfl hFE rfl
 obtain ⟨n, a3, a5⟩ := evs2 (iRoot_ev hf (L + 1) (by omega)) key
 refine ⟨n, fun k hk => ?_⟩
 obtain ⟨j, rfl⟩ : ∃ j, k = n + j := ⟨k - n, by omega⟩
 have c5 := a5 j
 have c6 : v.length < 17592186044416 := by clear hsl; omega
 have c7 : 0 ≤ (L : Int) := by clear hsl; omega
 have hw : wrap64 ((L : Int) + 1) = ((L + 1 : Nat) : Int) := wsucc (by clear hsl; omega)
 simp only [impl_field_runStep.f, hsl, hw, a3 j, Option.bind_some, if_true, List.nil_append, List.length_nil, Nat.zero_add, c6, c7, c5]

def bno (t x : Nat) : Nat := x / 2 ^ t / 2 * 2 ^ t + x % 2 ^ t
theorem bno_div (t x : Nat) : bno t x / 2 ^ t = x / 2 ^ t / 2 ∧ bno t x % 2 ^ t = x % 2 ^ t := by
 have h0 : 0 < 2 ^ t := Nat.pow_pos (by omega)
 have hr := Nat.mod_lt x h0
 unfold bno
 rw [Nat.mul_comm, Nat.mul_add_div h0, Nat.div_eq_of_lt hr, Nat.mul_add_mod, Nat.mod_mod]
 omega
theorem bno_iff (t x b : Nat) : bno t x = b ↔ (x = posB t b ∨ x = posB t b + 2 ^ t) := by
 have h0 : 0 < 2 ^ t := Nat.pow_pos (by omega)
 have hd := Nat.div_add_mod x (2 ^ t)
 constructor
 · rintro rfl
   obtain ⟨e1, e2⟩ := bno_div t x
   unfold posB
   rw [e1, e2]
   rcases Nat.mod_two_eq_zero_or_one (x / 2 ^ t) with h | h
   · left
     rw [show 2 * (x / 2 ^ t / 2) = x / 2 ^ t by omega]; omega
   · right
     have : 2 ^ t * (x / 2 ^ t) = 2 ^ t * (2 * (x / 2 ^ t / 2)) + 2 ^ t := by
      rw [show x / 2 ^ t = 2 * (x / 2 ^ t / 2) + 1 by omega, Nat.mul_add, Nat.mul_one]
      rw [show 2 * ((2 * (x / 2 ^ t / 2) + 1) / 2) = 2 * (x / 2 ^ t / 2) by omega]
     omega
 · have hr := Nat.mod_lt b h0
   have hb := Nat.div_add_mod b (2 ^ t)
   rintro (rfl | rfl)
   · unfold bno posB
     rw [Nat.mul_add_div h0, Nat.div_eq_of_lt hr, Nat.mul_add_mod, Nat.mod_mod, Nat.add_zero, show 2 * (b / 2 ^ t) / 2 = b / 2 ^ t by omega, Nat.mul_comm]; omega
   · unfold bno posB
     rw [show 2 ^ t * (2 * (b / 2 ^ t)) + b % 2 ^ t + 2 ^ t = 2 ^ t * (2 * (b / 2 ^ t) + 1) + b % 2 ^ t by rw [Nat.mul_add]; omega, Nat.mul_add_div h0, Nat.div_eq_of_lt hr, Nat.mul_add_mod, Nat.mod_mod, Nat.add_zero, show (2 * (b / 2 ^ t) + 1) / 2 = b / 2 ^ t by omega, Nat.mul_comm]; omega
theorem bno_lt {K t x : Nat} (ht : t < K) (hx : x < 2 ^ K) : bno t x < 2 ^ (K - 1) := by
 have h0 : 0 < 2 ^ t := Nat.pow_pos (by omega)
 obtain ⟨m, rfl⟩ : ∃ m, K = t + 1 + m := ⟨K - (t + 1), by omega⟩
 have e2 : 2 ^ (t + 1 + m) = 2 ^ t * (2 * 2 ^ m) := by rw [Nat.pow_add, Nat.pow_succ, Nat.mul_assoc]
 have hq : x / 2 ^ t < 2 * 2 ^ m := Nat.div_lt_of_lt_mul (by rw [← e2]; exact hx)
 have hr := Nat.mod_lt x h0
 unfold bno
 rw [show t + 1 + m - 1 = t + m by omega, Nat.pow_add]
 have h1 : (x / 2 ^ t / 2 + 1) * 2 ^ t ≤ 2 ^ m * 2 ^ t := Nat.mul_le_mul (by omega) (Nat.le_refl _)
 rw [Nat.add_mul, Nat.one_mul] at h1
 rw [Nat.mul_comm (2 ^ t) (2 ^ m)]
 omega
theorem runL_tab (f : Int) (lv : Nat) (v : List Int) (n : Nat) : ∀ (d b : Nat) (g : Nat → Int), runL f lv v d b (tab n g) = tab n (fun x => if b ≤ bno lv x ∧ bno lv x < b + d then stP f lv v x else g x) := by
 intro d
 induction d with
 | zero =>
  intro b g
  rw [runL]
  refine tab_congr fun x _ => ?_
  rw [if_neg (by omega)]
 | succ d ih =>
  intro b g
  rw [runL, tab_set, tab_set, ih]
  refine tab_congr fun x _ => ?_
  have h0 : 0 < 2 ^ lv := Nat.pow_pos (by omega)
  by_cases hb : bno lv x = b
  · have c1 : ¬ (b + 1 ≤ bno lv x ∧ bno lv x < b + 1 + d) := by omega
    have c2 : b ≤ bno lv x ∧ bno lv x < b + (d + 1) := by omega
    rw [if_neg c1, if_pos c2]
    rcases (bno_iff lv x b).1 hb with h | h
    · have c3 : ¬ x = posB lv b + 2 ^ lv := by omega
      rw [if_neg c3, if_pos h, h]
    · rw [if_pos h, h]
  · have hne : ¬ (x = posB lv b ∨ x = posB lv b + 2 ^ lv) := fun h => hb ((bno_iff lv x b).2 h)
    by_cases hc : b + 1 ≤ bno lv x ∧ bno lv x < b + 1 + d
    · have c2 : b ≤ bno lv x ∧ bno lv x < b + (d + 1) := by omega
      rw [if_pos hc, if_pos c2]
    · have c2 : ¬ (b ≤ bno lv x ∧ bno lv x < b + (d + 1)) := by omega
      rw [if_neg hc, if_neg c2, if_neg (fun h => hne (Or.inr h)), if_neg (fun h => hne (Or.inl h))]
theorem stg_two {p W : Int} {s : Nat} {a b : Nat → Int} {x : Nat} (h1 : a x = b x) (h2 : x / 2 ^ s % 2 = 0 → a (x + 2 ^ s) = b (x + 2 ^ s)) (h3 : x / 2 ^ s % 2 ≠ 0 → a (x - 2 ^ s) = b (x - 2 ^ s)) : stg p W s a x = stg p W s b x := by
 unfold stg
 by_cases c : x / 2 ^ s % 2 = 0
 · rw [if_pos c, if_pos c, h1, h2 c]
 · rw [if_neg c, if_neg c, h1, h3 c]
theorem bno_up {t x : Nat} (h : x / 2 ^ t % 2 = 0) : bno t (x + 2 ^ t) = bno t x := by
 have h0 : 0 < 2 ^ t := Nat.pow_pos (by omega)
 unfold bno
 rw [Nat.add_div_right _ h0, Nat.add_mod_right, show (x / 2 ^ t).succ / 2 = x / 2 ^ t / 2 by omega]
theorem bno_down {t x : Nat} (h : x / 2 ^ t % 2 ≠ 0) : bno t (x - 2 ^ t) = bno t x := by
 have h0 : 0 < 2 ^ t := Nat.pow_pos (by omega)
 have h1 : 2 ^ t ≤ x := by
  have hd := Nat.div_add_mod x (2 ^ t)
  have hq1 : 1 ≤ x / 2 ^ t := by
   generalize x / 2 ^ t = q at h
   omega
  have h2 : 2 ^ t * 1 ≤ 2 ^ t * (x / 2 ^ t) := Nat.mul_le_mul (Nat.le_refl _) hq1
  omega
 obtain ⟨y, rfl⟩ : ∃ y, x = y + 2 ^ t := ⟨x - 2 ^ t, by omega⟩
 rw [Nat.add_sub_cancel]
 refine (bno_up ?_).symm
 rw [Nat.add_div_right _ h0] at h
 generalize y / 2 ^ t = q at h ⊢
 omega
def hgt (P : List Nat) : Nat → Nat → Nat
 | 0, _ => 0
 | t + 1, x => hgt P t x + if t * 512 + bno t x ∈ P then 1 else 0
theorem hgt_eq {P : List Nat} {x lv : Nat} : ∀ K, lv ≤ K → (∀ t, t < lv → t * 512 + bno t x ∈ P) → (∀ t, lv ≤ t → t < K → t * 512 + bno t x ∉ P) → hgt P K x = lv := by
 intro K
 induction K with
 | zero => intro h _ _; simp [hgt]; omega
 | succ K ih =>
  intro h h1 h2
  rw [hgt]
  by_cases hk : lv ≤ K
  · rw [ih hk h1 (fun t a b => h2 t a (by omega)), if_neg (h2 K hk (by omega))]; rfl
  · have e : lv = K + 1 := by omega
    have hall : ∀ n, n ≤ K → hgt P n x = n := by
     intro n
     induction n with
     | zero => intro _; rfl
     | succ n ihn => intro hn; rw [hgt, ihn (by omega), if_pos (h1 n (by omega))]
    rw [hall K (Nat.le_refl _), if_pos (h1 K (by omega)), e]
theorem hgt_congr {P Q : List Nat} {x : Nat} : ∀ K, (∀ t, t < K → (t * 512 + bno t x ∈ P ↔ t * 512 + bno t x ∈ Q)) → hgt P K x = hgt Q K x := by
 intro K
 induction K with
 | zero => intro _; rfl
 | succ K ih =>
  intro h
  rw [hgt, hgt, ih (fun t ht => h t (by omega))]
  by_cases hp : K * 512 + bno K x ∈ P
  · rw [if_pos hp, if_pos ((h K (by omega)).1 hp)]
  · rw [if_neg hp, if_neg (fun hq => hp ((h K (by omega)).2 hq))]
def curP (f : Int) (K : Nat) (a : Nat → Int) (P : List Nat) (x : Nat) : Int := lev (mdP f) (rt f) a (hgt P K x) x

theorem lev_mono {K : Int} {l : List S36} (hok : okS K l = true) : ∀ (d i : Nat), i + d < l.length → (rd_T36 l (i : Int)).f0 ≤ (rd_T36 l ((i + d : Nat) : Int)).f0 := by
 intro d
 induction d with
 | zero => intro i _; exact Int.le_refl _
 | succ d ih =>
  intro i hi
  have h1 := ih i (by omega)
  have h2 := (okS_at hok (i := i + d + 1) (by omega)).2 (by omega)
  rw [show i + d + 1 - 1 = i + d by omega] at h2
  exact Int.le_trans h1 h2
theorem pts_drop {K : Nat} (hK : K ≤ 9) {l : List S36} (hok : okS (K : Int) l = true) : ∀ (d i : Nat), l.length - i = d → ∀ y ∈ pts (l.drop i), ∃ j, i ≤ j ∧ j < l.length ∧ ((y / 512 : Nat) : Int) = (rd_T36 l (j : Int)).f0 := by
 intro d
 induction d with
 | zero =>
  intro i hd y hy
  rw [List.drop_of_length_le (by omega)] at hy
  exact absurd hy (by simp [pts])
 | succ d ih =>
  intro i hd y hy
  have hil : i < l.length := by omega
  rw [List.drop_eq_getElem_cons hil, pts, ← rdStep hil, List.mem_append] at hy
  rcases hy with hy | hy
  · obtain ⟨lv, fr, en, e1, e2, e3, h1, h2, h3, h4⟩ := step_nat hK (s := rd_T36 l (i : Int)) (okS_at hok hil).1
    unfold ptsOf at hy
    rw [e1, e2, e3] at hy
    obtain ⟨z, z1, z2, z3⟩ := (rngP_mem _ _ _ _).1 hy
    refine ⟨i, Nat.le_refl _, hil, ?_⟩
    rw [e1]
    have : y / 512 = lv := by simp at z3 z2; omega
    rw [this]
  · obtain ⟨j, h1, h2, h3⟩ := ih (i + 1) (by omega) y hy
    exact ⟨j, by omega, h2, h3⟩
theorem cur_step {f : Int} (K lv fr en n : Nat) (hK9 : K ≤ 9) (hn : n = 2 ^ K) (hlv : lv < K) (hen : en ≤ 512) (hfe : fr ≤ en) (a : Nat → Int) (P : List Nat)
 (hin : ∀ x, x < n → fr ≤ bno lv x → bno lv x < en → (∀ t, t < lv → t * 512 + bno t x ∈ P) ∧ (∀ t, lv ≤ t → t < K → t * 512 + bno t x ∉ P)) :
 runL f lv (tab n (curP f K a P)) (en - fr) fr (tab n (curP f K a P)) = tab n (curP f K a (P ++ rngP lv fr (en - fr))) := by
 rw [runL_tab]
 refine tab_congr fun x hx => ?_
 have hb512 : ∀ t y, t < K → K ≤ 9 → y < n → bno t y < 512 := fun t y ht hK hy => by
  have := bno_lt ht (by rw [← hn]; exact hy)
  have h9 := pow2_9 (K := K - 1) (by omega)
  omega
 by_cases hc : fr ≤ bno lv x ∧ bno lv x < fr + (en - fr)
 · rw [if_pos hc]
   have h1 := hin x hx hc.1 (by omega)
   have e0 : hgt P K x = lv := hgt_eq K (by omega) h1.1 h1.2
   have e1 : hgt (P ++ rngP lv fr (en - fr)) K x = lv + 1 := by
    refine hgt_eq K (by omega) (fun t ht => ?_) (fun t ht htk => ?_)
    · by_cases hl : t = lv
      · subst hl
        exact List.mem_append_right _ ((rngP_mem _ _ _ _).2 ⟨bno t x, hc.1, hc.2, rfl⟩)
      · exact List.mem_append_left _ (h1.1 t (by omega))
    · rw [List.mem_append]
      rintro (h | h)
      · exact h1.2 t (by omega) htk h
      · obtain ⟨z, z1, z2, z3⟩ := (rngP_mem _ _ _ _).1 h
        have : (t - lv) * 512 + bno t x = z := by rw [Nat.sub_mul]; omega
        have h2 : 1 * 512 ≤ (t - lv) * 512 := Nat.mul_le_mul (by omega) (Nat.le_refl _)
        omega
   have hsame : ∀ y, y < n → bno lv y = bno lv x → rd (tab n (curP f K a P)) (y : Int) = lev (mdP f) (rt f) a lv y := by
    intro y hy hyx
    have h2 := hin y hy (by rw [hyx]; exact hc.1) (by rw [hyx]; omega)
    rw [tab_rd hy]
    unfold curP
    rw [hgt_eq K (by omega) h2.1 h2.2]
   unfold curP
   rw [e1, lev]
   unfold stP
   have h0 : 0 < 2 ^ lv := Nat.pow_pos (by omega)
   refine stg_two (hsame x hx rfl) (fun hz => ?_) (fun hz => ?_)
   · refine hsame _ ?_ (bno_up hz)
     obtain ⟨m, rfl⟩ : ∃ m, K = lv + 1 + m := ⟨K - (lv + 1), by omega⟩
     have e2 : n = 2 ^ lv * (2 * 2 ^ m) := by rw [hn, Nat.pow_add, Nat.pow_succ, Nat.mul_assoc]
     have hq : x / 2 ^ lv < 2 * 2 ^ m := Nat.div_lt_of_lt_mul (by rw [← e2]; exact hx)
     have hd := Nat.div_add_mod x (2 ^ lv)
     have hr := Nat.mod_lt x h0
     have h2 : 2 ^ lv * (x / 2 ^ lv + 2) ≤ n := by rw [e2]; exact Nat.mul_le_mul (Nat.le_refl _) (by omega)
     rw [Nat.mul_add] at h2
     omega
   · exact hsame _ (by omega) (bno_down hz)
 · rw [if_neg hc]
   unfold curP
   rw [hgt_congr (P := P) (Q := P ++ rngP lv fr (en - fr)) K (fun t ht => ⟨fun h => List.mem_append_left _ h, fun h => ?_⟩)]
   rcases List.mem_append.1 h with h | h
   · exact h
   · obtain ⟨z, z1, z2, z3⟩ := (rngP_mem _ _ _ _).1 h
     exfalso
     have hbt := hb512 t x ht hK9 hx
     by_cases htl : t = lv
     · subst htl; omega
     · by_cases hlt : t < lv
       · have h2 : (t + 1) * 512 ≤ lv * 512 := Nat.mul_le_mul (by omega) (Nat.le_refl _)
         omega
       · have h2 : (lv + 1) * 512 ≤ t * 512 := Nat.mul_le_mul (by omega) (Nat.le_refl _)
         omega
theorem iRunPlan_l {f : Int} (hf : fldOk f) {K : Nat} (hK : K ≤ 9) (hKT : (K : Int) ≤ rd fT f) (l : List S36) (hl : l.length ≤ 600) (hok : okS (K : Int) l = true) (honce : onceB K l = true) (n : Nat) (hn : n = 2 ^ K) (a : Nat → Int) (ha : ∀ i, i < n → 0 ≤ a i ∧ a i < mdP f) :
 ∀ (d i : Nat) (P : List Nat), l.length - i = d → i ≤ l.length → pts l = P ++ pts (l.drop i) → (∀ y ∈ P, ∀ j, i ≤ j → j < l.length → ((y / 512 : Nat) : Int) ≤ (rd_T36 l (j : Int)).f0) →
 Ev (fun k => impl_RunPlan.l0 k (tab n (curP f K a P)) l (l.length : Int) (i : Int) (mdP f) (rd fG f) (rd fT f)) (tab n (lev (mdP f) (rt f) a K), true) := by
 have hm := mdP_range hf
 have h9 := pow2_9 hK
 obtain ⟨hnd, hlenA⟩ := (once_iff hK l hok).1 honce
 have hall : ∀ t b, t < K → b < 2 ^ (K - 1) → t * 512 + b ∈ pts l := by
  intro t b ht hb
  have h1 := (allF_iff _ _ _).1 ((allF_iff _ _ _).1 honce t (by omega) (by omega)) b (by omega) (by omega)
  have h2 := of_decide_eq_true h1
  exact List.count_pos_iff.1 (by omega)
 intro d
 induction d with
 | zero =>
  intro i P hd hi hA hP
  rw [List.drop_of_length_le (by omega), pts, List.append_nil] at hA
  refine ev_now fun k => ?_
  simp only [impl_RunPlan.l0]
  rw [if_neg (by omega)]
  refine congrArg some (Prod.ext (tab_congr fun x hx => ?_) rfl)
  unfold curP
  rw [hgt_eq K (Nat.le_refl _) (fun t ht => by rw [← hA]; exact hall t _ ht (bno_lt ht (by omega))) (fun t h1 h2 => by omega)]
 | succ d ih =>
  intro i P hd hi hA hP
  have hil : i < l.length := by omega
  obtain ⟨lv, fr, en, e1, e2, e3, h1, h2, h3, h4⟩ := step_nat hK (s := rd_T36 l (i : Int)) (okS_at hok hil).1
  have hA2 : pts l = (P ++ rngP lv fr (en - fr)) ++ pts (l.drop (i + 1)) := by
   rw [hA, List.drop_eq_getElem_cons hil, pts, ← rdStep hil, List.append_assoc]
   unfold ptsOf
   rw [e1, e2, e3]
   congr 2
   congr 1
   omega
  have hstep := cur_step (f := f) K lv fr en n hK hn h1 (by omega) (by omega) a P (fun x hx hb1 hb2 => by
   have hbt : ∀ t, t < K → bno t x < 2 ^ (K - 1) := fun t ht => bno_lt ht (by omega)
   refine ⟨fun t ht => ?_, fun t ht htk hmem => ?_⟩
   · have hin := hall t (bno t x) (by omega) (hbt t (by omega))
     rw [hA, List.mem_append] at hin
     rcases hin with hin | hin
     · exact hin
     · obtain ⟨j, j1, j2, j3⟩ := pts_drop hK hok _ i rfl _ hin
       have hmono := lev_mono hok (j - i) i (by omega)
       rw [show i + (j - i) = j by omega, e1, ← j3] at hmono
       have hb := hbt t (by omega)
       have : (t * 512 + bno t x) / 512 = t := by omega
       rw [this] at hmono
       omega
   · by_cases htl : t = lv
     · subst htl
       have hin2 : t * 512 + bno t x ∈ rngP t fr (en - fr) ++ pts (l.drop (i + 1)) := List.mem_append_left _ ((rngP_mem _ _ _ _).2 ⟨bno t x, hb1, by omega, rfl⟩)
       have hA3 : pts l = P ++ (rngP t fr (en - fr) ++ pts (l.drop (i + 1))) := by rw [hA2, List.append_assoc]
       rw [hA3, List.nodup_append] at hnd
       exact hnd.2.2 _ hmem _ hin2 rfl
     · have hle := hP _ hmem i (Nat.le_refl _) hil
       have hb := hbt t (by omega)
       have : (t * 512 + bno t x) / 512 = t := by omega
       rw [this, e1] at hle
       omega)
  have key := ih (i + 1) (P ++ rngP lv fr (en - fr)) (by omega) (by omega) hA2 (fun y hy j hj hjl => by
   rcases List.mem_append.1 hy with hy | hy
   · exact hP y hy j (by omega) hjl
   · obtain ⟨z, z1, z2, z3⟩ := (rngP_mem _ _ _ _).1 hy
     have hmono := lev_mono hok (j - i) i (by omega)
     rw [show i + (j - i) = j by omega, e1] at hmono
     have : y / 512 = lv := by omega
     rw [this]
     exact hmono)
  rw [← hstep] at key
  obtain ⟨m, rfl⟩ : ∃ m, K = lv + 1 + m := ⟨K - (lv + 1), by omega⟩
  have hrun := iRunS_ev hf lv m hK (tab n (curP f (lv + 1 + m) a P)) (fun x hx => by
   rw [tab_len] at hx
   rw [tab_rd hx]
   exact lev_range (by omega) ha _ x hx) (by rw [tab_len, hn]) fr en (by omega) (by rw [show lv + m = lv + 1 + m - 1 by omega]; exact h3)
  obtain ⟨q, a1, a2⟩ := evs2 hrun key
  refine ⟨q + 1, fun k hk => ?_⟩
  obtain ⟨j, rfl⟩ : ∃ j, k = q + j + 1 := ⟨k - q - 1, by omega⟩
  have c1 : (i : Int) < (l.length : Int) := by omega
  have c2 : 0 ≤ (i : Int) := by omega
  have w1 : wrap64 ((i : Int) + 1) = ((i + 1 : Nat) : Int) := wsucc (by omega)
  simp only [impl_RunPlan.l0, e1, e2, e3, a1 j, w1, c1, c2, Option.bind_some, if_true]
  exact a2 j

def runPV (f K : Int) (l : List S36) (v : List Int) : List Int × Bool := if planV f K l ∧ vecP f v ∧ v.length = 2 ^ K.toNat then (tab v.length (fwd f K.toNat v), true) else ([], false)
theorem runPV_yes {f K : Int} {l : List S36} {v : List Int} (h1 : planV f K l) (h2 : vecP f v) (h3 : v.length = 2 ^ K.toNat) : runPV f K l v = (tab v.length (fwd f K.toNat v), true) := if_pos ⟨h1, h2, h3⟩
theorem runPV_no {f K : Int} {l : List S36} {v : List Int} (h : ¬ (planV f K l ∧ vecP f v ∧ v.length = 2 ^ K.toNat)) : runPV f K l v = ([], false) := if_neg h
theorem len_iff {v : List Int} {q : Nat} : ((v.length : Int) = ((2 ^ q : Nat) : Int)) ↔ v.length = 2 ^ q := by omega

theorem sRunPlanP_ev (f K : Int) (l : List S36) (v : List Int) (hl : l.length ≤ 1048576) (hv : v.length ≤ 1048576) : Ev (fun k => spec_RunPlan.f k f K l v) (runPV f K l v) := by
 obtain ⟨m, e1, e2⟩ := evs2 (sIsPlan_ev f K l hl) (sVec_ev f v hv)
 by_cases h : planV f K l
 · obtain ⟨q, rfl, hq⟩ := planV_nat2 h
   have hs := shl_pow (i := q) (by omega)
   have hsl : shl .i64 1 (IntKind.u64.wrap (q : Int)) = ((2 ^ q : Nat) : Int) := by rw [hs.2.1]; simp
   by_cases h2 : vecP f v
   · by_cases h3 : v.length = 2 ^ q
     · have hlog : logB (v.length : Int) = q := by rw [h3]; simpa using logB_pow hq
       obtain ⟨m2, e3⟩ := evs1 (sForward_ev h2 hq hlog h3 h.1.2.2.2)
       rw [runPV_yes h h2 (by simpa using h3)]
       refine ⟨m + m2, fun k hk => ?_⟩
       obtain ⟨j, rfl⟩ : ∃ j, k = m + m2 + j := ⟨k - (m + m2), by clear hsl; omega⟩
       have e1' := e1 (m2 + j)
       have e2' := e2 (m2 + j)
       have e3' := e3 (m + j)
       rw [← Nat.add_assoc] at e1' e2'
       rw [← Nat.add_assoc, Nat.add_comm m2 m] at e3'
       simp only [spec_RunPlan.f, e1', e2', decide_eq_true h, decide_eq_true h2, Option.bind_some, if_true, hsl, Int.toNat_natCast]
       rw [if_pos hs.2.2, if_pos (len_iff.2 h3), e3']
       rfl
     · rw [runPV_no (fun x => h3 (by simpa using x.2.2))]
       refine ⟨m, fun k hk => ?_⟩
       obtain ⟨j, rfl⟩ : ∃ j, k = m + j := ⟨k - m, by clear hsl; omega⟩
       simp only [spec_RunPlan.f, e1 j, e2 j, decide_eq_true h, decide_eq_true h2, Option.bind_some, if_true, hsl]
       rw [if_pos hs.2.2, if_neg (fun x => h3 (len_iff.1 x))]
   · rw [runPV_no (fun x => h2 x.2.1)]
     refine ⟨m, fun k hk => ?_⟩
     obtain ⟨j, rfl⟩ : ∃ j, k = m + j := ⟨k - m, by clear hsl; omega⟩
     simp only [spec_RunPlan.f, e1 j, e2 j, decide_eq_true h, decide_eq_false h2, Option.bind_some, if_true, Bool.false_eq_true, if_false]
 · rw [runPV_no (fun x => h x.1)]
   refine ⟨m, fun k hk => ?_⟩
   obtain ⟨j, rfl⟩ : ∃ j, k = m + j := ⟨k - m, by omega⟩
   simp only [spec_RunPlan.f, e1 j, decide_eq_false h, Option.bind_some, Bool.false_eq_true, if_false]

theorem iRunPlanP_ev (f K : Int) (l : List S36) (v : List Int) (hl : l.length ≤ 1048576) (hv : v.length ≤ 1048576) : Ev (fun k => impl_RunPlan.f k f K l v) (runPV f K l v) := by
 obtain ⟨m, e1, e2⟩ := evs2 (iVec1_ev f v hv) (iIsPlan_ev f K l hl)
 by_cases h2 : vecP f v
 · by_cases h : planV f K l
   · obtain ⟨q, rfl, hq⟩ := planV_nat2 h
     have hs := shl_pow (i := q) (by omega)
     have hsl : shl .i64 1 (q : Int) = ((2 ^ q : Nat) : Int) := by rw [hs.1]; simp
     by_cases h3 : v.length = 2 ^ q
     · have hel := vec_el h2
       have hm := mdP_range h2.1
       have key := iRunPlan_l h2.1 hq h.1.2.2.2 l h.2.1 h.2.2.1 (by have := h.2.2.2; rwa [Int.toNat_natCast] at this) v.length h3 (fun y => rd v ((rv q y : Nat) : Int)) (fun i hi => hel _ (by have := rv_lt q i; omega)) l.length 0 [] (by omega) (by omega) rfl (by intro y hy; exact absurd hy (by simp))
       have e0 : tab v.length (curP f q (fun y => rd v ((rv q y : Nat) : Int)) []) = tab v.length (fun y => rd v ((rv q y : Nat) : Int)) := by
        refine tab_congr fun x hx => ?_
        unfold curP
        rw [hgt_eq q (Nat.zero_le _) (fun t ht => by omega) (fun t _ _ => by simp), lev]
       rw [e0, lev_fwd h2.1 q h.1.2.2.2 v h3 hel] at key
       obtain ⟨m2, e3, e4⟩ := evs2 (iPerm_ev q hq v h3) key
       rw [runPV_yes h h2 (by simpa using h3)]
       refine ⟨m + m2 + 1, fun k hk => ?_⟩
       obtain ⟨j, rfl⟩ : ∃ j, k = m + m2 + j + 1 := ⟨k - (m + m2) - 1, by clear hsl; omega⟩
       have e1' := e1 (m2 + j + 1)
       have e2' := e2 (m2 + j + 1)
       have e3' := e3 (m + j)
       have e4' := e4 (m + j)
       rw [← Nat.add_assoc, ← Nat.add_assoc] at e1' e2'
       rw [← Nat.add_assoc, Nat.add_comm m2 m] at e3' e4'
       simp only [impl_RunPlan.f, e1', e2', if_pos h2, decide_eq_true h, Option.bind_some, if_true, hsl]
       have hb : ((v.length : Int) != ((2 ^ q : Nat) : Int)) = false := by simp only [bne_eq_false_iff_eq]; exact len_iff.2 h3
       rw [if_pos (by clear hsl; omega), hb]
       simp only [impl_RunPlan.j0, Bool.false_eq_true, if_false, e3', Option.bind_some, Int.toNat_natCast]
       exact e4'
     · rw [runPV_no (fun x => h3 (by simpa using x.2.2))]
       refine ⟨m + 1, fun k hk => ?_⟩
       obtain ⟨j, rfl⟩ : ∃ j, k = m + j + 1 := ⟨k - m - 1, by clear hsl; omega⟩
       have e1' := e1 (j + 1)
       have e2' := e2 (j + 1)
       rw [← Nat.add_assoc] at e1' e2'
       simp only [impl_RunPlan.f, e1', e2', if_pos h2, decide_eq_true h, Option.bind_some, if_true, hsl]
       have hb : ((v.length : Int) != ((2 ^ q : Nat) : Int)) = true := by simp only [bne_iff_ne, ne_eq]; exact fun x => h3 (len_iff.1 x)
       rw [if_pos (by clear hsl; omega), hb]
       simp only [impl_RunPlan.j0, if_true]
   · rw [runPV_no (fun x => h x.1)]
     refine ⟨m + 1, fun k hk => ?_⟩
     obtain ⟨j, rfl⟩ : ∃ j, k = m + j + 1 := ⟨k - m - 1, by omega⟩
     have e1' := e1 (j + 1)
     have e2' := e2 (j + 1)
     rw [← Nat.add_assoc] at e1' e2'
     simp only [impl_RunPlan.f, e1', e2', if_pos h2, decide_eq_false h, Option.bind_some, if_true, Bool.false_eq_true, if_false, impl_RunPlan.j0]
 · rw [runPV_no (fun x => h2 x.2.1)]
   refine ⟨m + 1, fun k hk => ?_⟩
   obtain ⟨j, rfl⟩ : ∃ j, k = m + j + 1 := ⟨k - m - 1, by omega⟩
   have e1' := e1 (j + 1)
   rw [← Nat.add_assoc] at e1'
   simp only [impl_RunPlan.f, e1', if_neg h2, Option.bind_some, Bool.false_eq_true, if_false, impl_RunPlan.j0, if_true]

def swapL (l : List S36) (i : Nat) : List S36 := (l.set i (rd_T36 l ((i + 1 : Nat) : Int))).set (i + 1) (rd_T36 l (i : Int))
def swapC (f K : Int) (l : List S36) (i : Int) : Prop := planV f K l ∧ 0 ≤ i ∧ i + 1 < l.length ∧ (rd_T36 l (i.toNat : Int)).f0 = (rd_T36 l ((i.toNat + 1 : Nat) : Int)).f0
instance swapC_dec (f K : Int) (l : List S36) (i : Int) : Decidable (swapC f K l i) := by unfold swapC; infer_instance
def swapR (f K : Int) (l : List S36) (i : Int) : Int × Int × List S36 × Bool := if swapC f K l i then (f, K, swapL l i.toNat, true) else (0, 0, [], false)
theorem swapL_len (l : List S36) (i : Nat) : (swapL l i).length = l.length := by simp [swapL]
theorem sSteps_l (l : List S36) (hl : l.length ≤ 1048576) : ∀ (d i : Nat) (acc : List S36), l.length - i = d → i ≤ l.length → acc.length ≤ i → Ev (fun k => spec_l09Steps.l0 k l acc (i : Int)) (acc ++ l.drop i) := by
 intro d
 induction d with
 | zero =>
  intro i acc h hi ha
  refine ev_now fun k => ?_
  simp only [spec_l09Steps.l0]
  rw [if_neg (by omega), List.drop_of_length_le (by omega), List.append_nil]
 | succ d ih =>
  intro i acc h hi ha
  have h1 : i < l.length := by omega
  have key := ih (i + 1) (acc ++ [l[i]]) (by omega) (by omega) (by rw [List.length_append]; simp; omega)
  rw [List.append_assoc, List.singleton_append, ← List.drop_eq_getElem_cons h1] at key
  refine Ev.step (fun k => ?_) key
  simp only [spec_l09Steps.l0]
  rw [if_pos (by omega), if_pos (by omega), if_pos (by omega), rdStep h1, wsucc (by omega)]
theorem sSteps_ev (l : List S36) (hl : l.length ≤ 1048576) : Ev (fun k => spec_l09Steps.f k l) l := by
 have := sSteps_l l hl l.length 0 [] (by omega) (by omega) (by simp)
 rw [List.nil_append, List.drop_zero] at this
 exact this

theorem sSwapSteps_ev (f K : Int) (l : List S36) (i : Int) (hl : l.length ≤ 1048576) : Ev (fun k => spec_SwapSteps.f k f K l i) (swapR f K l i) := by
 obtain ⟨m, e, e2⟩ := evs2 (sIsPlan_ev f K l hl) (sSteps_ev l hl)
 have hw : wrap64 ((l.length : Int) - 2) = (l.length : Int) - 2 := w64 (by omega) (by omega)
 refine ⟨m, fun n hn => ?_⟩
 obtain ⟨j, rfl⟩ : ∃ j, n = m + j := ⟨n - m, by omega⟩
 by_cases h : planV f K l
 · simp only [spec_SwapSteps.f, spec_l01In.f, e, hw, Option.bind_some, decide_eq_true h, if_true]
   by_cases h0 : 0 ≤ i
   · obtain ⟨i, rfl⟩ : ∃ i0 : Nat, i = i0 := ⟨i.toNat, by omega⟩
     rw [if_pos h0]
     by_cases h1 : (i : Int) + 1 < l.length
     · rw [decide_eq_true (by omega)]
       simp only [Option.bind_some, if_true, e2]
       rw [wsucc (by omega), if_pos h0, if_pos (by omega), if_pos (by omega), if_pos (by omega)]
       by_cases h2 : (rd_T36 l (i : Int)).f0 = (rd_T36 l ((i + 1 : Nat) : Int)).f0
       · rw [if_pos h2, if_pos (by omega), if_pos (by omega)]
         unfold swapR
         rw [if_pos ⟨h, h0, h1, h2⟩]
         rfl
       · rw [if_neg h2]
         unfold swapR
         rw [if_neg (fun hh => h2 hh.2.2.2)]
     · rw [decide_eq_false (by omega)]
       simp only [Option.bind_some, Bool.false_eq_true, if_false]
       unfold swapR
       rw [if_neg (fun hh => h1 hh.2.2.1)]
   · rw [if_neg h0]
     simp only [Option.bind_some, Bool.false_eq_true, if_false]
     unfold swapR
     rw [if_neg (fun hh => h0 hh.2.1)]
 · simp only [spec_SwapSteps.f, e, Option.bind_some, decide_eq_false h, Bool.false_eq_true, if_false]
   unfold swapR
   rw [if_neg (fun hh => h hh.1)]

theorem iSwapSteps_ev (f K : Int) (l : List S36) (i : Int) (hl : l.length ≤ 1048576) : Ev (fun k => impl_SwapSteps.f k f K l i) (swapR f K l i) := by
 obtain ⟨m, e⟩ := evs1 (iIsPlan_ev f K l hl)
 have hw : wrap64 ((l.length : Int) - 1) = (l.length : Int) - 1 := w64 (by omega) (by omega)
 refine ⟨m, fun n hn => ?_⟩
 obtain ⟨j, rfl⟩ : ∃ j, n = m + j := ⟨n - m, by omega⟩
 by_cases h : planV f K l
 · simp only [impl_SwapSteps.f, e, hw, Option.bind_some, decide_eq_true h, if_true]
   by_cases h0 : 0 ≤ i
   · obtain ⟨i, rfl⟩ : ∃ i0 : Nat, i = i0 := ⟨i.toNat, by omega⟩
     rw [if_neg (by omega)]
     by_cases h1 : (i : Int) + 1 < l.length
     · rw [if_neg (by omega), wsucc (by omega), if_pos h0, if_pos (by omega), if_pos (by omega), if_pos (by omega)]
       by_cases h2 : (rd_T36 l (i : Int)).f0 = (rd_T36 l ((i + 1 : Nat) : Int)).f0
       · rw [if_pos h2]
         simp only [Option.bind_some, List.nil_append, List.length_nil]
         rw [if_pos (by omega), if_pos (by omega), if_pos (by omega)]
         unfold swapR
         rw [if_pos ⟨h, h0, h1, h2⟩]
         rfl
       · rw [if_neg h2]
         unfold swapR
         rw [if_neg (fun hh => h2 hh.2.2.2)]
     · rw [if_pos (by omega)]
       unfold swapR
       rw [if_neg (fun hh => h1 hh.2.2.1)]
   · rw [if_pos (by omega)]
     unfold swapR
     rw [if_neg (fun hh => h0 hh.2.1)]
 · simp only [impl_SwapSteps.f, e, Option.bind_some, decide_eq_false h, Bool.false_eq_true, if_false]
   unfold swapR
   rw [if_neg (fun hh => h hh.1)]

theorem lawsCp_l (l : List Int) (hn : l.length ≤ 1048576) : ∀ (d i : Nat), l.length - i = d → i ≤ l.length → Ev (fun k => laws_cp.l0 k l (l.take i) (i : Int)) l := by
 intro d
 induction d with
 | zero =>
  intro i h hi
  refine ev_now fun k => ?_
  simp only [laws_cp.l0]
  rw [if_neg (by omega), List.take_of_length_le (by omega)]
 | succ d ih =>
  intro i h hi
  refine Ev.step (fun k => ?_) (ih (i + 1) (by omega) (by omega))
  simp only [laws_cp.l0]
  rw [if_pos (by omega), if_pos (by omega), if_pos (by simp; omega), wsucc (by omega), rd_eq (by omega), List.take_append_getElem (by omega)]
theorem lawsCp_ev (l : List Int) (hn : l.length ≤ 1048576) : Ev (fun k => laws_cp.f k l) l := Ev.congr (fun k => rfl) (lawsCp_l l hn l.length 0 (by omega) (by omega))

theorem lawsSame_l (l : List Int) (hn : l.length ≤ 1048576) : ∀ (d i : Nat), l.length - i = d → i ≤ l.length → Ev (fun k => laws_same.l0 k l l (i : Int)) true := by
 intro d
 induction d with
 | zero =>
  intro i h hi
  refine ev_now fun k => ?_
  simp only [laws_same.l0]
  rw [if_neg (by omega)]
 | succ d ih =>
  intro i h hi
  refine Ev.step (fun k => ?_) (ih (i + 1) (by omega) (by omega))
  simp only [laws_same.l0]
  rw [if_pos (by omega), if_pos (by omega), if_pos (by omega), if_pos trivial, wsucc (by omega)]
theorem lawsSame_ev (l : List Int) (hn : l.length ≤ 1048576) : Ev (fun k => laws_same.f k l l) true := by
 refine Ev.congr (fun k => ?_) (lawsSame_l l hn l.length 0 (by omega) (by omega))
 simp only [laws_same.f, if_true]
 rfl

theorem cpPlan_l (f K : Int) (l : List S36) (hn : l.length ≤ 1048576) : ∀ (d i : Nat), l.length - i = d → i ≤ l.length → Ev (fun k => laws_cpPlan.l0 k (i : Int) f K l f K (l.take i)) (f, K, l) := by
 intro d
 induction d with
 | zero =>
  intro i h hi
  refine ev_now fun k => ?_
  simp only [laws_cpPlan.l0]
  rw [if_neg (by omega), List.take_of_length_le (by omega)]
 | succ d ih =>
  intro i h hi
  have hil : i < l.length := by omega
  refine Ev.step (fun k => ?_) (ih (i + 1) (by omega) (by omega))
  simp only [laws_cpPlan.l0, rdStep hil]
  rw [if_pos (by omega), if_pos (by omega), if_pos (by simp; omega), wsucc (by omega)]
  rw [← List.take_append_getElem hil]
theorem cpPlan_ev (f K : Int) (l : List S36) (hn : l.length ≤ 1048576) : Ev (fun k => laws_cpPlan.f k f K l) (f, K, l) := Ev.congr (fun k => rfl) (cpPlan_l f K l hn l.length 0 (by omega) (by omega))

theorem pts_append (A B : List S36) : pts (A ++ B) = pts A ++ pts B := by
 induction A with
 | nil => rfl
 | cons s r ih => simp only [List.cons_append, pts, ih, List.append_assoc]
theorem rngP_append (lv : Nat) : ∀ (d b e : Nat), rngP lv b (d + e) = rngP lv b d ++ rngP lv (b + d) e := by
 intro d
 induction d with
 | zero => intro b e; simp [rngP]
 | succ d ih =>
  intro b e
  rw [show d + 1 + e = (d + e) + 1 by omega, rngP, rngP, ih, List.cons_append, show b + 1 + d = b + (d + 1) by omega]
theorem okS_srt {K : Int} {l : List S36} : okS K l = true ↔ (∀ s ∈ l, stepP K s.f0 s.f1 s.f2) ∧ l.Pairwise (fun a b => a.f0 ≤ b.f0) := by
 constructor
 · intro h
   have mono : ∀ (d i : Nat) (hd : i + d < l.length), (l[i]'(by omega)).f0 ≤ (l[i + d]).f0 := by
    intro d
    induction d with
    | zero => intro i hd; exact Int.le_refl _
    | succ d ih =>
     intro i hd
     have h1 := ih i (by omega)
     have h2 := (okS_at h hd).2 (by omega)
     rw [show i + (d + 1) - 1 = i + d by omega, rdStep (show i + d < l.length by omega), rdStep hd] at h2
     exact Int.le_trans h1 h2
   refine ⟨fun s hs => okS_mem h hs, List.pairwise_iff_getElem.2 fun i j hi hj hij => ?_⟩
   have := mono (j - i) i (by omega)
   have e : i + (j - i) = j := by omega
   simp only [e] at this
   exact this
 · rintro ⟨h1, h2⟩
   refine (allF_iff _ _ _).2 fun j _ hj => decide_eq_true ?_
   have hj : j < l.length := by omega
   refine ⟨?_, fun h0 => ?_⟩
   · rw [rdStep hj]; exact h1 _ (List.getElem_mem hj)
   · rw [rdStep hj, rdStep (show j - 1 < l.length by omega)]
     exact List.pairwise_iff_getElem.1 h2 (j - 1) j (by omega) hj (by omega)
theorem onceB_count {K : Nat} {l m : List S36} (h : ∀ x, (pts l).count x = (pts m).count x) : onceB K l = onceB K m := by
 unfold onceB
 congr 1
 funext s
 congr 1
 funext b
 rw [h]

theorem cutL_all {lv most en : Int} (hm : 1 ≤ most) : ∀ (d : Nat) (fr : Int), ∀ s ∈ cutL lv most en d fr, s.f0 = lv ∧ fr ≤ s.f1 ∧ s.f1 < s.f2 ∧ s.f2 ≤ en ∧ s.f2 - s.f1 ≤ most := by
 intro d
 induction d with
 | zero => intro fr s hs; simp [cutL] at hs
 | succ d ih =>
  intro fr s hs
  rw [cutL] at hs
  by_cases h : fr < en
  · rw [if_pos h] at hs
    rcases List.mem_cons.1 hs with rfl | hs
    · refine ⟨rfl, Int.le_refl _, ?_, ?_, ?_⟩ <;> simp only <;> split <;> omega
    · have := ih _ s hs
      refine ⟨this.1, ?_, this.2.2.1, this.2.2.2.1, this.2.2.2.2⟩
      have := this.2.1
      split at this <;> omega
  · rw [if_neg h] at hs; simp at hs
theorem cutL_pts {lv most en : Int} (hm : 1 ≤ most) : ∀ (d : Nat) (fr : Int), 0 ≤ fr → (en - fr).toNat ≤ d → pts (cutL lv most en d fr) = rngP lv.toNat fr.toNat (en - fr).toNat := by
 intro d
 induction d with
 | zero =>
  intro fr h0 h1
  rw [show (en - fr).toNat = 0 by omega]
  rfl
 | succ d ih =>
  intro fr h0 h1
  rw [cutL]
  by_cases h : fr < en
  · rw [if_pos h, pts]
    obtain ⟨m, hm1, hm2, hmd⟩ : ∃ m : Int, 1 ≤ m ∧ m ≤ en - fr ∧ (if most < en - fr then most else en - fr) = m := ⟨_, by split <;> omega, by split <;> omega, rfl⟩
    rw [hmd, ih (fr + m) (by omega) (by omega)]
    unfold ptsOf
    simp only
    rw [show (fr + m).toNat = fr.toNat + (fr + m - fr).toNat by omega, ← rngP_append]
    congr 1
    omega
  · rw [if_neg h, show (en - fr).toNat = 0 by omega]
    rfl
theorem splL_pts {most : Int} (hm : 1 ≤ most) : ∀ (l : List S36), (∀ s ∈ l, 0 ≤ s.f1) → pts (splL most l) = pts l := by
 intro l
 induction l with
 | nil => intro _; rfl
 | cons s r ih =>
  intro h
  rw [splL, pts_append, ih (fun x hx => h x (List.mem_cons_of_mem _ hx)), pts]
  congr 1
  exact cutL_pts hm _ _ (h s List.mem_cons_self) (Nat.le_refl _)
theorem splL_mem {most : Int} (hm : 1 ≤ most) : ∀ (l : List S36) (x : S36), x ∈ splL most l → ∃ s ∈ l, x.f0 = s.f0 ∧ s.f1 ≤ x.f1 ∧ x.f1 < x.f2 ∧ x.f2 ≤ s.f2 ∧ x.f2 - x.f1 ≤ most := by
 intro l
 induction l with
 | nil => intro x hx; simp [splL] at hx
 | cons s r ih =>
  intro x hx
  rw [splL] at hx
  rcases List.mem_append.1 hx with hx | hx
  · exact ⟨s, List.mem_cons_self, cutL_all hm _ _ x hx⟩
  · obtain ⟨q, hq, h⟩ := ih x hx
    exact ⟨q, List.mem_cons_of_mem _ hq, h⟩
theorem splL_srt {most : Int} (hm : 1 ≤ most) : ∀ (l : List S36), l.Pairwise (fun a b => a.f0 ≤ b.f0) → (splL most l).Pairwise (fun a b => a.f0 ≤ b.f0) := by
 intro l
 induction l with
 | nil => intro _; exact List.Pairwise.nil
 | cons s r ih =>
  intro h
  rw [List.pairwise_cons] at h
  rw [splL, List.pairwise_append]
  refine ⟨?_, ih h.2, fun a ha b hb => ?_⟩
  · refine List.pairwise_iff_getElem.2 fun i j hi hj _ => ?_
    rw [(cutL_all hm _ _ _ (List.getElem_mem hi)).1, (cutL_all hm _ _ _ (List.getElem_mem hj)).1]
    exact Int.le_refl _
  · obtain ⟨q, hq, hb0, _⟩ := splL_mem hm r b hb
    rw [(cutL_all hm _ _ a ha).1, hb0]
    exact h.1 q hq
theorem planV_spl {f K most : Int} {l : List S36} (h : planV f K l) (hm : 1 ≤ most) (hl : (splL most l).length ≤ 600) : planV f K (splL most l) := by
 obtain ⟨h1, h2, h3, h4⟩ := h
 have h5 := okS_srt.1 h3
 refine ⟨h1, hl, okS_srt.2 ⟨fun x hx => ?_, splL_srt hm l h5.2⟩, ?_⟩
 · obtain ⟨q, hq, e0, e1, e2, e3, _⟩ := splL_mem hm l x hx
   have := h5.1 q hq
   unfold stepP at this ⊢
   omega
 · rw [← h4]
   exact onceB_count fun x => by rw [splL_pts hm l (fun s hs => (h5.1 s hs).2.2.1)]

def bigL (hf : Int) : Nat → Nat → List S36
 | 0, _ => []
 | d + 1, i => ⟨(i : Int), 0, hf⟩ :: bigL hf d (i + 1)
theorem levels_spl (k most : Int) : ∀ (d i : Nat), levels k most d i = splL most (bigL (halfK k) d i) := by
 intro d
 induction d with
 | zero => intro i; rfl
 | succ d ih => intro i; rw [levels, bigL, splL, ih]
theorem bigL_mem (hf : Int) : ∀ (d i : Nat) (s : S36), s ∈ bigL hf d i → ∃ j : Nat, i ≤ j ∧ j < i + d ∧ s.f0 = j ∧ s.f1 = 0 ∧ s.f2 = hf := by
 intro d
 induction d with
 | zero => intro i s hs; simp [bigL] at hs
 | succ d ih =>
  intro i s hs
  rw [bigL] at hs
  rcases List.mem_cons.1 hs with rfl | hs
  · exact ⟨i, Nat.le_refl _, by omega, rfl, rfl, rfl⟩
  · obtain ⟨j, h1, h2, h3⟩ := ih _ s hs
    exact ⟨j, by omega, by omega, h3⟩
theorem bigL_len (hf : Int) : ∀ (d i : Nat), (bigL hf d i).length = d := by
 intro d
 induction d with
 | zero => intro i; rfl
 | succ d ih => intro i; rw [bigL, List.length_cons, ih]
theorem bigL_srt (hf : Int) : ∀ (d i : Nat), (bigL hf d i).Pairwise (fun a b => a.f0 ≤ b.f0) := by
 intro d
 induction d with
 | zero => intro i; exact List.Pairwise.nil
 | succ d ih =>
  intro i
  rw [bigL, List.pairwise_cons]
  refine ⟨fun b hb => ?_, ih _⟩
  obtain ⟨j, h1, _, h3, _⟩ := bigL_mem hf d (i + 1) b hb
  rw [h3]
  show (i : Int) ≤ j
  omega
theorem rngP_nodup (lv : Nat) : ∀ d b, (rngP lv b d).Nodup := by
 intro d
 induction d with
 | zero => intro b; exact List.nodup_nil
 | succ d ih =>
  intro b
  rw [rngP, List.nodup_cons]
  refine ⟨fun h => ?_, ih _⟩
  obtain ⟨y, h1, _, h3⟩ := (rngP_mem lv d (b + 1) _).1 h
  omega
theorem bigL_pts (n : Nat) (hn : n ≤ 256) : ∀ (d i : Nat), (pts (bigL (n : Int) d i)).Nodup ∧ (pts (bigL (n : Int) d i)).length = d * n ∧ ∀ x ∈ pts (bigL (n : Int) d i), i * 512 ≤ x := by
 intro d
 induction d with
 | zero => intro i; exact ⟨List.nodup_nil, by simp [bigL, pts], fun x hx => by simp [bigL, pts] at hx⟩
 | succ d ih =>
  intro i
  obtain ⟨h1, h2, h3⟩ := ih (i + 1)
  have e : ptsOf ⟨(i : Int), 0, (n : Int)⟩ = rngP i 0 n := by unfold ptsOf; simp
  rw [bigL, pts, e]
  refine ⟨List.nodup_append.2 ⟨rngP_nodup _ _ _, h1, ?_⟩, ?_, ?_⟩
  · intro a ha b hb hab
    obtain ⟨y, _, y2, y3⟩ := (rngP_mem i n 0 a).1 ha
    have := h3 b hb
    omega
  · rw [List.length_append, rngP_len, h2, Nat.succ_mul]; omega
  · intro x hx
    rcases List.mem_append.1 hx with hx | hx
    · obtain ⟨y, _, _, y3⟩ := (rngP_mem i n 0 x).1 hx
      omega
    · exact Nat.le_trans (Nat.mul_le_mul_right 512 (Nat.le_succ i)) (h3 x hx)
theorem planV_big {f K : Int} (h : logP f K) : planV f K (bigL (halfK K) K.toNat 0) := by
 obtain ⟨h1, h2, h3, h4⟩ := h
 obtain ⟨n, rfl⟩ := Int.eq_ofNat_of_zero_le h2
 have hn9 : n ≤ 9 := by omega
 have hh : halfK (n : Int) = ((2 ^ (n - 1) : Nat) : Int) := by unfold halfK; rw [Int.toNat_natCast]; simp
 have h256 : 2 ^ (n - 1) ≤ 256 := Nat.pow_le_pow_right (show 0 < 2 by omega) (show n - 1 ≤ 8 by omega)
 have hpos : 0 < 2 ^ (n - 1) := Nat.pow_pos (by omega)
 rw [Int.toNat_natCast]
 have hok : okS (n : Int) (bigL (halfK (n : Int)) n 0) = true := by
  refine okS_srt.2 ⟨fun s hs => ?_, bigL_srt _ _ _⟩
  obtain ⟨j, _, j2, j3, j4, j5⟩ := bigL_mem _ _ _ s hs
  unfold stepP
  rw [j3, j4, j5, hh]
  omega
 refine ⟨⟨h1, h2, h3, h4⟩, by rw [bigL_len]; omega, hok, ?_⟩
 rw [Int.toNat_natCast]
 refine (once_iff hn9 _ hok).2 ?_
 have := bigL_pts (2 ^ (n - 1)) h256 n 0
 rw [hh]
 exact ⟨this.1, this.2.1⟩
theorem cutL_17 {lv most en : Int} (hm : 17 ≤ most) : ∀ (d : Nat) (fr : Int), fr ≤ en → ((cutL lv most en d fr).length : Int) * 17 ≤ en - fr + 16 := by
 intro d
 induction d with
 | zero => intro fr h; simp [cutL]; omega
 | succ d ih =>
  intro fr h
  rw [cutL]
  by_cases h1 : fr < en
  · rw [if_pos h1, List.length_cons]
    by_cases h2 : most < en - fr
    · rw [if_pos h2]
      have := ih (fr + most) (by omega)
      omega
    · rw [if_neg h2]
      have := ih (fr + (en - fr)) (by omega)
      omega
  · rw [if_neg h1]; simp; omega
theorem levels_17 {k most : Int} (h0 : 0 ≤ k) (h9 : k ≤ 9) (hm : 17 ≤ most) : ∀ (d i : Nat), (levels k most d i).length ≤ 16 * d := by
 obtain ⟨n, rfl⟩ := Int.eq_ofNat_of_zero_le h0
 have hh : halfK (n : Int) = ((2 ^ (n - 1) : Nat) : Int) := by unfold halfK; rw [Int.toNat_natCast]; simp
 have h256 : 2 ^ (n - 1) ≤ 256 := Nat.pow_le_pow_right (show 0 < 2 by omega) (show n - 1 ≤ 8 by omega)
 generalize 2 ^ (n - 1) = H at hh h256
 intro d
 induction d with
 | zero => intro i; simp [levels]
 | succ d ih =>
  intro i
  have h1 := ih (i + 1)
  have h2 := cutL_17 (lv := (i : Int)) (en := halfK (n : Int)) hm (halfK (n : Int) - 0).toNat 0 (by rw [hh]; omega)
  rw [levels, List.length_append]
  unfold cut
  rw [hh] at h2 ⊢
  omega
theorem planV_levels {f K most : Int} (h : logP f K) (hm : 17 ≤ most) : (levels K most K.toNat 0).length ≤ 600 ∧ planV f K (levels K most K.toNat 0) := by
 have h1 := levels_17 h.2.1 h.2.2.1 hm K.toNat 0
 have h2 : K.toNat ≤ 9 := by have := h.2.2.1; omega
 have h3 : (levels K most K.toNat 0).length ≤ 600 := by omega
 refine ⟨h3, ?_⟩
 rw [levels_spl] at h3 ⊢
 exact planV_spl (planV_big h) (by omega) h3

theorem swap_split {l : List S36} {i : Nat} (hi : i + 1 < l.length) : ∃ A a b B, l = A ++ a :: b :: B ∧ A.length = i ∧ l[i]'(by omega) = a ∧ l[i + 1] = b ∧ swapL l i = A ++ b :: a :: B := by
 have h0 : i < l.length := by omega
 have e : l = l.take i ++ l[i] :: l[i + 1] :: l.drop (i + 2) := by
  rw [← List.drop_eq_getElem_cons hi, ← List.drop_eq_getElem_cons h0, List.take_append_drop]
 have hA : (l.take i).length = i := by rw [List.length_take]; omega
 refine ⟨l.take i, l[i], l[i + 1], l.drop (i + 2), e, hA, rfl, rfl, ?_⟩
 unfold swapL
 rw [rdStep hi, rdStep h0]
 generalize l[i + 1] = b at e ⊢
 generalize l[i] = a at e ⊢
 rw [e]
 generalize l.drop (i + 2) = B
 generalize l.take i = A at hA ⊢
 subst hA
 simp [List.set_append]
theorem planV_swap {f K : Int} {l : List S36} {i : Int} (h : swapC f K l i) : planV f K (swapL l i.toNat) := by
 obtain ⟨⟨h1, h2, h3, h4⟩, h5, h6, h7⟩ := h
 have hi : i.toNat + 1 < l.length := by omega
 rw [rdStep hi, rdStep (show i.toNat < l.length by omega)] at h7
 obtain ⟨A, a, b, B, e, hA, ea, eb, es⟩ := swap_split hi
 rw [ea, eb] at h7
 have h8 := okS_srt.1 h3
 rw [es]
 rw [e] at h8 h4 h2
 refine ⟨h1, ?_, okS_srt.2 ⟨fun s hs => h8.1 s ?_, ?_⟩, ?_⟩
 · simp only [List.length_append, List.length_cons] at h2 ⊢; exact h2
 · simp only [List.mem_append, List.mem_cons] at hs ⊢
   rcases hs with hs | rfl | rfl | hs
   · exact .inl hs
   · exact .inr (.inr (.inl rfl))
   · exact .inr (.inl rfl)
   · exact .inr (.inr (.inr hs))
 · have h9 := h8.2
   rw [List.pairwise_append, List.pairwise_cons, List.pairwise_cons] at h9
   rw [List.pairwise_append, List.pairwise_cons, List.pairwise_cons]
   obtain ⟨p1, ⟨p2, p3, p4⟩, p5⟩ := h9
   refine ⟨p1, ⟨?_, ?_, p4⟩, ?_⟩
   · intro x hx
     rcases List.mem_cons.1 hx with rfl | hx
     · exact Int.le_of_eq h7.symm
     · exact p3 x hx
   · intro x hx; exact p2 x (List.mem_cons_of_mem _ hx)
   · intro x hx y hy
     refine p5 x hx y ?_
     simp only [List.mem_cons] at hy ⊢
     rcases hy with rfl | rfl | hy
     · exact .inr (.inl rfl)
     · exact .inl rfl
     · exact .inr (.inr hy)
 · rw [← h4]
   refine onceB_count fun x => ?_
   simp only [pts_append, pts, List.count_append]
   omega

theorem drawOnce1 (l : List Int) (hn : l.length ≤ 140737488355328) (i h : Int) (hi : dAt l i) (m : Int) : ∃ b i' h', spec_l01Once.f l i h m = some (b, i', h') ∧ dAt l i' := by
 obtain ⟨b1, i1, h1, e1, r1, d1⟩ := drawBelow l hn i h hi m
 exact ⟨(b1 == 0), i1, h1, by simp only [spec_l01Once.f, e1, Option.bind_some], d1⟩

theorem drawField (l : List Int) (hn : l.length ≤ 140737488355328) (i h : Int) (hi : dAt l i) : ∃ b i' h', spec_l01DrawField.f l i h = some (b, i', h') ∧ dAt l i' := by
 obtain ⟨b1, i1, h1, e1, d1⟩ := drawOnce1 l hn i h hi 20
 obtain ⟨b2, i2, h2, e2, r2, d2⟩ := drawPickInt l hn i1 h1 d1 [(-1), 9, 100] (by simp)
 obtain ⟨b3, i3, h3, e3, r3, d3⟩ := drawBelow l hn i1 h1 d1 9
 cases b1 with
 | true => exact ⟨b2, i2, h2, by simp only [spec_l01DrawField.f, e1, e2, Option.bind_some, if_true], d2⟩
 | false => exact ⟨b3, i3, h3, by simp only [spec_l01DrawField.f, e1, e3, Option.bind_some, Bool.false_eq_true, if_false], d3⟩

theorem drawElem (l : List Int) (hn : l.length ≤ 140737488355328) (i h : Int) (hi : dAt l i) (f : Int) : ∃ b i' h', spec_l01DrawElement.f l i h f = some (b, i', h') ∧ dAt l i' := by
 simp only [spec_l01DrawElement.f, sMod, Option.bind_some]
 by_cases h0 : md f = 0
 · obtain ⟨b1, i1, h1, e1, r1, d1⟩ := drawBelow l hn i h hi 50
   rw [if_pos h0, e1]
   exact ⟨_, _, _, rfl, d1⟩
 · obtain ⟨b1, i1, h1, e1, r1, d1⟩ := drawBelow l hn i h hi 6
   rw [if_neg h0, e1, Option.bind_some]
   by_cases c0 : b1 = 0
   · obtain ⟨b2, i2, h2, e2, r2, d2⟩ := drawBelow l hn i1 h1 d1 3
     rw [if_pos c0, e2]
     exact ⟨_, _, _, rfl, d2⟩
   · rw [if_neg c0]
     by_cases c1 : b1 = 1
     · obtain ⟨b2, i2, h2, e2, r2, d2⟩ := drawBelow l hn i1 h1 d1 3
       rw [if_pos c1, e2]
       exact ⟨_, _, _, rfl, d2⟩
     · rw [if_neg c1]
       by_cases c2 : b1 = 2
       · obtain ⟨b2, i2, h2, e2, r2, d2⟩ := drawBelow l hn i1 h1 d1 16777216
         obtain ⟨b3, i3, h3, e3, r3, d3⟩ := drawBelow l hn i2 h2 d2 256
         rw [if_pos c2, e2, Option.bind_some, e3]
         exact ⟨_, _, _, rfl, d3⟩
       · obtain ⟨b2, i2, h2, e2, r2, d2⟩ := drawBelow l hn i1 h1 d1 30
         rw [if_neg c2, e2]
         exact ⟨_, _, _, rfl, d2⟩

theorem drawList_l (l : List Int) (hn : l.length ≤ 140737488355328) (f : Int) (n : Nat) (hn6 : n ≤ 1048576) : ∀ (d j : Nat) (acc : List Int) (i h : Int), n - j = d → j ≤ n → acc.length = j → dAt l i →
 ∃ out i' h', Ev (fun k => spec_l01DrawList.l0 k f (n : Int) acc (j : Int) l i h) (out, i', h') ∧ out.length = n ∧ dAt l i' := by
 intro d
 induction d with
 | zero =>
  intro j acc i h hd hj ha hi
  refine ⟨acc, i, h, ev_now fun k => ?_, by omega, hi⟩
  simp only [spec_l01DrawList.l0]
  rw [if_neg (by omega)]
 | succ d ih =>
  intro j acc i h hd hj ha hi
  obtain ⟨b1, i1, h1, e1, d1⟩ := drawElem l hn i h hi f
  obtain ⟨out, i', h', k1, k2, k3⟩ := ih (j + 1) (acc ++ [b1]) i1 h1 (by omega) (by omega) (by simp; omega) d1
  refine ⟨out, i', h', Ev.step (fun k => ?_) k1, k2, k3⟩
  simp only [spec_l01DrawList.l0, e1, Option.bind_some]
  rw [if_pos (by omega), if_pos (by omega), wsucc (by omega)]
theorem drawList (l : List Int) (hn : l.length ≤ 140737488355328) (i h : Int) (hi : dAt l i) (f : Int) (n : Nat) (hn6 : n ≤ 1048576) : ∃ out i' h', Ev (fun k => spec_l01DrawList.f k l i h f (n : Int)) (out, i', h') ∧ out.length = n ∧ dAt l i' := by
 obtain ⟨out, i', h', k1, k2, k3⟩ := drawList_l l hn f n hn6 n 0 [] i h rfl (by omega) rfl hi
 exact ⟨out, i', h', Ev.congr (fun k => rfl) k1, k2, k3⟩

theorem w64_add (a b : Nat) (h : a + b ≤ 9223372036854775807) : wrap64 ((a : Int) + (b : Int)) = ((a + b : Nat) : Int) := w64n (by omega) h
def planFin (l : List Int) (g : Nat → Option (Int × Int × List S36 × Int × Int)) : Prop := ∃ F K out i h, Ev g (F, K, out, i, h) ∧ out.length ≤ 600 ∧ dAt l i
theorem planFin.step {l : List Int} {g g' : Nat → Option (Int × Int × List S36 × Int × Int)} (h : ∀ k, g (k + 1) = g' k) (hg : planFin l g') : planFin l g := by
 obtain ⟨F, K, out, i, x, e, h1, h2⟩ := hg
 exact ⟨F, K, out, i, x, Ev.step h e, h1, h2⟩
theorem planFin.now {l : List Int} {g : Nat → Option (Int × Int × List S36 × Int × Int)} {F K : Int} {out : List S36} {i h : Int} (hg : ∀ k, g (k + 1) = some (F, K, out, i, h)) (h1 : out.length ≤ 600) (h2 : dAt l i) : planFin l g :=
 ⟨F, K, out, i, h, ev_now hg, h1, h2⟩
theorem drawPlan_end (l : List Int) (hn : l.length ≤ 140737488355328) (x6 x9 F K : Int) (hx : ¬ x9 < x6) (acc : List S36) (ha : acc.length ≤ 500) (i h : Int) (hi : dAt l i) : planFin l (fun k => spec_l09DrawPlan.l0 k x6 x9 l i h F K acc) := by
 obtain ⟨b1, i1, h1, e1, d1⟩ := drawOnce1 l hn i h hi 10
 cases b1 with
 | false =>
  refine planFin.now (F := F) (K := K) (out := acc) (i := i1) (h := h1) (fun k => ?_) (by omega) d1
  simp only [spec_l09DrawPlan.l0, e1, Option.bind_some]
  rw [if_neg hx, if_neg (by simp)]
 | true =>
  obtain ⟨b2, i2, h2, e2, r2, d2⟩ := drawBelow l hn i1 h1 d1 5
  by_cases c0 : b2 = 0
  · obtain ⟨b3, i3, h3, e3, d3⟩ := drawField l hn i2 h2 d2
    refine planFin.now (F := b3) (K := K) (out := acc) (i := i3) (h := h3) (fun k => ?_) (by omega) d3
    simp only [spec_l09DrawPlan.l0, e1, e2, e3, Option.bind_some]
    rw [if_neg hx, if_pos trivial, if_pos c0]
  · by_cases c1 : b2 = 1
    · obtain ⟨b3, i3, h3, e3, r3, d3⟩ := drawPickInt l hn i2 h2 d2 [(-1), 0, 10, wrap64 (x6 + 1)] (by simp)
      refine planFin.now (F := F) (K := b3) (out := acc) (i := i3) (h := h3) (fun k => ?_) (by omega) d3
      simp only [spec_l09DrawPlan.l0, e1, e2, e3, Option.bind_some]
      rw [if_neg hx, if_pos trivial, if_neg c0, if_pos c1]
    · by_cases c2 : b2 = 2
      · by_cases hp : (acc.length : Int) > 0
        · obtain ⟨b3, i3, h3, e3, r3, d3⟩ := drawBelow l hn i2 h2 d2 (acc.length : Int)
          obtain ⟨b4, i4, h4, e4, r4, d4⟩ := drawPickInt l hn i3 h3 d3 [(-1), 1] (by simp)
          refine planFin.now (F := F) (K := K) (out := acc.set b3.toNat (⟨(rd_T36 acc b3).f0, (rd_T36 acc b3).f1, wrap64 ((rd_T36 acc b3).f2 + b4)⟩ : S36)) (i := i4) (h := h4) (fun k => ?_) (by rw [List.length_set]; omega) d4
          · simp only [spec_l09DrawPlan.l0, e1, e2, e3, e4, Option.bind_some]
            rw [if_neg hx, if_pos trivial, if_neg c0, if_neg c1, if_pos c2, if_pos hp, if_pos r3.1, if_pos (by omega)]
        · refine planFin.now (F := F) (K := K) (out := acc) (i := i2) (h := h2) (fun k => ?_) (by omega) d2
          simp only [spec_l09DrawPlan.l0, e1, e2, Option.bind_some]
          rw [if_neg hx, if_pos trivial, if_neg c0, if_neg c1, if_pos c2, if_neg hp]
      · by_cases c3 : b2 = 3
        · by_cases hp : (acc.length : Int) > 0
          · refine planFin.now (F := F) (K := K) (out := acc.drop (1 : Int).toNat) (i := i2) (h := h2) (fun k => ?_) (by rw [List.length_drop]; omega) d2
            simp only [spec_l09DrawPlan.l0, e1, e2, Option.bind_some]
            rw [if_neg hx, if_pos trivial, if_neg c0, if_neg c1, if_neg c2, if_pos c3, if_pos hp, if_pos (by omega)]
          · refine planFin.now (F := F) (K := K) (out := acc) (i := i2) (h := h2) (fun k => ?_) (by omega) d2
            simp only [spec_l09DrawPlan.l0, e1, e2, Option.bind_some]
            rw [if_neg hx, if_pos trivial, if_neg c0, if_neg c1, if_neg c2, if_pos c3, if_neg hp]
        · by_cases c4 : b2 = 4
          · refine planFin.now (F := F) (K := K) (out := acc ++ [(⟨wrap64 (x6 - 1), 0, 1⟩ : S36)]) (i := i2) (h := h2) (fun k => ?_) (by rw [List.length_append, List.length_singleton]; omega) d2
            simp only [spec_l09DrawPlan.l0, e1, e2, Option.bind_some]
            rw [if_neg hx, if_pos trivial, if_neg c0, if_neg c1, if_neg c2, if_neg c3, if_pos c4, if_pos (by omega)]
          · refine planFin.now (F := F) (K := K) (out := acc) (i := i2) (h := h2) (fun k => ?_) (by omega) d2
            simp only [spec_l09DrawPlan.l0, e1, e2, Option.bind_some]
            rw [if_neg hx, if_pos trivial, if_neg c0, if_neg c1, if_neg c2, if_neg c3, if_neg c4]
theorem drawPlan_l3 (l : List Int) (hn : l.length ≤ 140737488355328) (x6 F K : Int) (x9 : Nat) (hx9 : x9 ≤ 6) (runs : List S36) (hr : runs.length ≤ 40) (i h : Int)
 (hrec : ∀ acc : List S36, acc.length ≤ 40 * (x9 + 1) → planFin l (fun k => spec_l09DrawPlan.l0 k x6 ((x9 + 1 : Nat) : Int) l i h F K acc)) : ∀ (d j : Nat) (acc : List S36), runs.length - j = d → j ≤ runs.length → acc.length ≤ 40 * x9 + j →
 planFin l (fun k => spec_l09DrawPlan.l3 k x6 (x9 : Int) runs (j : Int) l i h F K acc) := by
 intro d
 induction d with
 | zero =>
  intro j acc hd hj ha
  refine planFin.step (fun k => ?_) (hrec acc (by omega))
  simp only [spec_l09DrawPlan.l3]
  rw [if_neg (by omega), wsucc (by omega)]
 | succ d ih =>
  intro j acc hd hj ha
  refine planFin.step (fun k => ?_) (ih (j + 1) (acc ++ [rd_T36 runs (j : Int)]) (by omega) (by omega) (by rw [List.length_append, List.length_singleton]; omega))
  simp only [spec_l09DrawPlan.l3]
  rw [if_pos (by omega), if_pos (by omega), if_pos (by omega), wsucc (by omega)]
theorem drawPlan_l2 (l : List Int) (hn : l.length ≤ 140737488355328) (x6 F K : Int) (x9 : Nat) (hx9 : x9 ≤ 6) (acc : List S36) (ha : acc.length ≤ 40 * x9)
 (hrec : ∀ (i h : Int) (acc : List S36), dAt l i → acc.length ≤ 40 * (x9 + 1) → planFin l (fun k => spec_l09DrawPlan.l0 k x6 ((x9 + 1 : Nat) : Int) l i h F K acc)) : ∀ (d j : Nat) (runs : List S36) (i h : Int), runs.length - j = d → j ≤ runs.length → runs.length ≤ 40 → dAt l i →
 planFin l (fun k => spec_l09DrawPlan.l2 k x6 (x9 : Int) runs (j : Int) l i h F K acc) := by
 intro d
 induction d with
 | zero =>
  intro j runs i h hd hj hr hi
  refine planFin.step (fun k => ?_) (drawPlan_l3 l hn x6 F K x9 hx9 runs hr i h (fun acc hacc => hrec i h acc hi hacc) runs.length 0 acc (by omega) (by omega) (by omega))
  simp only [spec_l09DrawPlan.l2]
  rw [if_neg (by omega)]
  rfl
 | succ d ih =>
  intro j runs i h hd hj hr hi
  obtain ⟨b1, i1, h1, e1, r1, d1⟩ := drawBelow l hn i h hi (runs.length : Int)
  refine planFin.step (fun k => ?_) (ih (j + 1) ((runs.set j (rd_T36 runs b1)).set b1.toNat (rd_T36 runs (j : Int))) i1 h1 (by rw [List.length_set, List.length_set]; omega) (by rw [List.length_set, List.length_set]; omega) (by rw [List.length_set, List.length_set]; omega) d1)
  simp only [spec_l09DrawPlan.l2, e1, Option.bind_some]
  rw [if_pos (by omega), if_pos (by omega), if_pos r1.1, if_pos (by omega), wsucc (by omega), Int.toNat_natCast]
theorem drawPlan_l1 (l : List Int) (hn : l.length ≤ 140737488355328) (x6 F K : Int) (x9 : Nat) (hx9 : x9 ≤ 6) (acc : List S36) (ha : acc.length ≤ 40 * x9) (m : Nat) (hm : m ≤ 32)
 (hrec : ∀ (i h : Int) (acc : List S36), dAt l i → acc.length ≤ 40 * (x9 + 1) → planFin l (fun k => spec_l09DrawPlan.l0 k x6 ((x9 + 1 : Nat) : Int) l i h F K acc)) : ∀ (d j : Nat) (runs : List S36) (i h : Int), m - j ≤ d → j ≤ m → runs.length ≤ j → dAt l i →
 planFin l (fun k => spec_l09DrawPlan.l1 k x6 (x9 : Int) (m : Int) runs (j : Int) l i h F K acc) := by
 have hend : ∀ (j : Nat) (runs : List S36) (i h : Int), ¬ j < m → runs.length ≤ 32 → dAt l i → planFin l (fun k => spec_l09DrawPlan.l1 k x6 (x9 : Int) (m : Int) runs (j : Int) l i h F K acc) := by
  intro j runs i h hj hr hi
  refine planFin.step (fun k => ?_) (drawPlan_l2 l hn x6 F K x9 hx9 acc ha hrec runs.length 0 runs i h (by omega) (by omega) (by omega) hi)
  simp only [spec_l09DrawPlan.l1]
  rw [if_neg (by omega)]
  rfl
 intro d
 induction d with
 | zero =>
  intro j runs i h hd hj hr hi
  exact hend j runs i h (by omega) (by omega) hi
 | succ d ih =>
  intro j runs i h hd hj hr hi
  by_cases hjm : j < m
  · obtain ⟨b1, i1, h1, e1, r1, d1⟩ := drawBelow l hn i h hi (m : Int)
    obtain ⟨b, hb⟩ : ∃ b : Nat, Aside0 (b1 = (b : Int)) := ⟨b1.toNat, ⟨by omega⟩⟩
    have w1 := Aside0.mk (show wrap64 ((j : Int) + 1) = ((j + 1 : Nat) : Int) from wsucc (by omega))
    have hbm : b ≤ m := by have := hb.out; omega
    have w2 := Aside0.mk (w64_add (j + 1) b (by omega))
    by_cases hgt : ((j + 1 + b : Nat) : Int) > (m : Int)
    · refine planFin.step (fun k => ?_) (ih m (runs ++ [(⟨(x9 : Int), (j : Int), (m : Int)⟩ : S36)]) i1 h1 (by omega) (by omega) (by rw [List.length_append, List.length_singleton]; omega) d1)
      obtain ⟨J, hJ⟩ : ∃ J : Int, J = (j : Int) := ⟨_, rfl⟩
      rw [← hJ] at w1 ⊢
      simp only [spec_l09DrawPlan.l1, e1, Option.bind_some]
      rw [if_pos (by omega), w1.out, hb.out, w2.out, if_pos hgt, if_pos (by omega)]
    · refine planFin.step (fun k => ?_) (ih (j + 1 + b) (runs ++ [(⟨(x9 : Int), (j : Int), ((j + 1 + b : Nat) : Int)⟩ : S36)]) i1 h1 (by omega) (by omega) (by rw [List.length_append, List.length_singleton]; omega) d1)
      obtain ⟨J, hJ⟩ : ∃ J : Int, J = (j : Int) := ⟨_, rfl⟩
      rw [← hJ] at w1 ⊢
      simp only [spec_l09DrawPlan.l1, e1, Option.bind_some]
      rw [if_pos (by omega), w1.out, hb.out, w2.out, if_neg hgt, if_pos (by omega)]
  · exact hend j runs i h hjm (by omega) hi
theorem half_shl {q : Nat} (hq : q ≤ 6) : ∃ m : Nat, m ≤ 32 ∧ wrap64 (Int.tdiv (shl .i64 1 (IntKind.u64.wrap (q : Int))) 2) = (m : Int) := by
 rcases (show q = 0 ∨ q = 1 ∨ q = 2 ∨ q = 3 ∨ q = 4 ∨ q = 5 ∨ q = 6 by omega) with rfl | rfl | rfl | rfl | rfl | rfl | rfl
 · exact ⟨0, by omega, by decide +kernel⟩
 · exact ⟨1, by omega, by decide +kernel⟩
 · exact ⟨2, by omega, by decide +kernel⟩
 · exact ⟨4, by omega, by decide +kernel⟩
 · exact ⟨8, by omega, by decide +kernel⟩
 · exact ⟨16, by omega, by decide +kernel⟩
 · exact ⟨32, by omega, by decide +kernel⟩
theorem drawPlan_l0 (l : List Int) (hn : l.length ≤ 140737488355328) (F K x6 : Int) (hx6 : x6 ≤ 6) : ∀ (d x9 : Nat) (acc : List S36) (i h : Int), (x6 - x9).toNat = d → x9 ≤ 6 → acc.length ≤ 40 * x9 → dAt l i →
 planFin l (fun k => spec_l09DrawPlan.l0 k x6 (x9 : Int) l i h F K acc) := by
 intro d
 induction d with
 | zero =>
  intro x9 acc i h hd hx ha hi
  exact drawPlan_end l hn x6 x9 F K (by omega) acc (by omega) i h hi
 | succ d ih =>
  intro x9 acc i h hd hx ha hi
  obtain ⟨q, rfl⟩ : ∃ q : Nat, x6 = (q : Int) := ⟨x6.toNat, by omega⟩
  obtain ⟨m, hm, em⟩ := half_shl (q := q) (by omega)
  have hs := (shl_pow (i := q) (by omega)).2.2
  refine planFin.step (fun k => ?_) (drawPlan_l1 l hn (q : Int) F K x9 hx acc ha m hm (fun i h acc hi hacc => ih (x9 + 1) acc i h (by omega) (by omega) hacc hi) m 0 [] i h (by omega) (by omega) (by simp) hi)
  simp only [spec_l09DrawPlan.l0, em]
  rw [if_pos (by omega), if_pos hs]
  rfl
theorem drawPlan_j0 (l : List Int) (hn : l.length ≤ 140737488355328) (F x6 i h : Int) (hx6 : x6 ≤ 6) (hx0 : 0 ≤ x6) (hi : dAt l i) : planFin l (fun k => spec_l09DrawPlan.j0 k F x6 l i h) := by
 obtain ⟨b2, i2, h2, e2, r2, d2⟩ := drawBelow l hn i h hi (wrap64 (x6 + 1))
 rw [w64 (by omega) (by omega)] at r2
 obtain ⟨q, k1⟩ := evs1 (sTwo_ev F)
 generalize two F = t at k1
 by_cases ht : b2 > t
 · obtain ⟨F', K', out, i', h', e, hl, hd⟩ := drawPlan_l0 l hn F t t (by omega) (t - 0).toNat 0 [] i2 h2 (by omega) (by omega) (by simp) d2
   obtain ⟨m, k2⟩ := evs1 e
   refine ⟨F', K', out, i', h', ⟨q + m + 2, fun k hk => ?_⟩, hl, hd⟩
   obtain ⟨j, rfl⟩ : ∃ j, k = q + m + j + 1 + 1 := ⟨k - q - m - 2, by omega⟩
   have k1' := k1 (m + j + 1)
   have k2' := k2 (q + j)
   rw [show q + (m + j + 1) = q + m + j + 1 by omega] at k1'
   rw [show m + (q + j) = q + m + j by omega] at k2'
   simp only [spec_l09DrawPlan.j0, spec_l09DrawPlan.j1, e2, k1', Option.bind_some]
   rw [if_pos ht]
   exact k2'
 · obtain ⟨F', K', out, i', h', e, hl, hd⟩ := drawPlan_l0 l hn F b2 b2 (by omega) (b2 - 0).toNat 0 [] i2 h2 (by omega) (by omega) (by simp) d2
   obtain ⟨m, k2⟩ := evs1 e
   refine ⟨F', K', out, i', h', ⟨q + m + 2, fun k hk => ?_⟩, hl, hd⟩
   obtain ⟨j, rfl⟩ : ∃ j, k = q + m + j + 1 + 1 := ⟨k - q - m - 2, by omega⟩
   have k1' := k1 (m + j + 1)
   have k2' := k2 (q + j)
   rw [show q + (m + j + 1) = q + m + j + 1 by omega] at k1'
   rw [show m + (q + j) = q + m + j by omega] at k2'
   simp only [spec_l09DrawPlan.j0, spec_l09DrawPlan.j1, e2, k1', Option.bind_some]
   rw [if_neg ht]
   exact k2'
theorem drawPlan (l l2 : List Int) (hn : l.length ≤ 140737488355328) (hn2 : l2.length ≤ 1048576) (i h : Int) (hi : dAt l i) : planFin l (fun k => spec_l09DrawPlan.f k l i h l2) := by
 obtain ⟨b2, i2, h2, e2, r2, d2⟩ := drawBelow l hn i h hi 9
 have w1 : wrap64 ((l2.length : Int) / 40) = (l2.length : Int) / 40 := w64 (by omega) (by omega)
 have w2 : wrap64 (1 + (l2.length : Int) / 40) = 1 + (l2.length : Int) / 40 := w64 (by omega) (by omega)
 by_cases hgt : 1 + (l2.length : Int) / 40 > 6
 · obtain ⟨F', K', out, i', h', e, hl, hd⟩ := drawPlan_j0 l hn b2 6 i2 h2 (by omega) (by omega) d2
   refine ⟨F', K', out, i', h', Ev.congr (fun k => ?_) e, hl, hd⟩
   simp only [spec_l09DrawPlan.f, e2, w1, w2, Option.bind_some]
   rw [if_pos hgt]
 · obtain ⟨F', K', out, i', h', e, hl, hd⟩ := drawPlan_j0 l hn b2 (1 + (l2.length : Int) / 40) i2 h2 (by omega) (by omega) d2
   refine ⟨F', K', out, i', h', Ev.congr (fun k => ?_) e, hl, hd⟩
   simp only [spec_l09DrawPlan.f, e2, w1, w2, Option.bind_some]
   rw [if_neg hgt]

theorem drawRunPlan_j (l : List Int) (hn : l.length ≤ 140737488355328) (n : Nat) (h9 : n ≤ 512) (i h F K : Int) (hi : dAt l i) (st : List S36) : ∃ v, Ev (fun k => spec_DrawRunPlan.j0 k (n : Int) l i h F K st) (F, K, st, v) ∧ v.length ≤ 1024 := by
 obtain ⟨b1, i1, h1, e1, d1⟩ := drawOnce1 l hn i h hi 12
 cases b1 with
 | true =>
  obtain ⟨v, i2, h2, e2, l2, d2⟩ := drawList l hn i1 h1 d1 F (2 * n) (by omega)
  refine ⟨v, Ev.step (f := fun k => (spec_l01DrawList.f k l i1 h1 F ((2 * n : Nat) : Int)).bind fun bt => some (F, K, st, bt.1)) (fun k => ?_) ?_, by omega⟩
  · simp only [spec_DrawRunPlan.j0, e1, Option.bind_some, if_true]
    rw [w64n (a := 2 * n) (by omega) (by omega)]
  · obtain ⟨m, k2⟩ := evs1 e2
    refine ⟨m, fun k hk => ?_⟩
    obtain ⟨j, rfl⟩ : ∃ j, k = m + j := ⟨k - m, by omega⟩
    show (spec_l01DrawList.f (m + j) l i1 h1 F ((2 * n : Nat) : Int)).bind _ = _
    rw [k2 j]; rfl
 | false =>
  obtain ⟨v, i2, h2, e2, l2, d2⟩ := drawList l hn i1 h1 d1 F n (by omega)
  refine ⟨v, Ev.step (f := fun k => (spec_l01DrawList.f k l i1 h1 F (n : Int)).bind fun bt => some (F, K, st, bt.1)) (fun k => ?_) ?_, by omega⟩
  · simp only [spec_DrawRunPlan.j0, e1, Option.bind_some, Bool.false_eq_true, if_false]
  · obtain ⟨m, k2⟩ := evs1 e2
    refine ⟨m, fun k hk => ?_⟩
    obtain ⟨j, rfl⟩ : ∃ j, k = m + j := ⟨k - m, by omega⟩
    show (spec_l01DrawList.f (m + j) l i1 h1 F (n : Int)).bind _ = _
    rw [k2 j]; rfl
theorem drawRunPlan (l : List Int) (hn : l.length ≤ 1048576) : ∃ F K st v, Ev (fun k => spec_DrawRunPlan.f k l) (F, K, st, v) ∧ st.length ≤ 600 ∧ v.length ≤ 1024 := by
 obtain ⟨h0, e0⟩ := drawNew l (by omega)
 obtain ⟨F, K, st, i1, h1, e1, hl, d1⟩ := drawPlan l l (by omega) hn 0 h0 (dAt0 l)
 by_cases hK : 0 ≤ K ∧ K ≤ 9
 · obtain ⟨q, rfl⟩ : ∃ q : Nat, K = (q : Int) := ⟨K.toNat, by omega⟩
   have hs := shl_pow (i := q) (by omega)
   have h9 := pow2_9 (K := q) (by omega)
   obtain ⟨v, e2, hv⟩ := drawRunPlan_j l (by omega) (2 ^ q) h9.1 i1 h1 F (q : Int) d1 st
   obtain ⟨m, k0, k1, k2⟩ := evs3 e0 e1 e2
   refine ⟨F, (q : Int), st, v, ⟨m, fun k hk => ?_⟩, hl, hv⟩
   obtain ⟨j, rfl⟩ : ∃ j, k = m + j := ⟨k - m, by omega⟩
   have hsl : shl .i64 1 (IntKind.u64.wrap (q : Int)) = ((2 ^ q : Nat) : Int) := by rw [hs.2.1]; simp
   simp only [spec_DrawRunPlan.f, k0 j, k1 j, in_eq, decide_eq_true hK, hsl, Option.bind_some, if_true]
   rw [if_pos hs.2.2]
   exact k2 j
 · obtain ⟨v, e2, hv⟩ := drawRunPlan_j l (by omega) 1 (by omega) i1 h1 F K d1 st
   obtain ⟨m, k0, k1, k2⟩ := evs3 e0 e1 e2
   refine ⟨F, K, st, v, ⟨m, fun k hk => ?_⟩, hl, hv⟩
   obtain ⟨j, rfl⟩ : ∃ j, k = m + j := ⟨k - m, by omega⟩
   simp only [spec_DrawRunPlan.f, k0 j, k1 j, in_eq, decide_eq_false hK, Option.bind_some, Bool.false_eq_true, if_false]
   exact k2 j

end Go.Proofs.Ytbojabmpcfclhaa.QFnPlanTurned


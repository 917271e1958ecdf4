/- Lemmas on the printed functions of FnExactMakePlan: what each comes to. -/
import Derived.Test.YtjgggiophbnghacPFnExactMakePlanx
import Derived.Test.YtjgggiophbnghacNtt
namespace Go.Proofs.Ytjgggiophbnghac.QFnExactMakePlan
open Go.RowKit Go.Proofs.Ytjgggiophbnghac.PFnExactMakePlan Go.Proofs.YtjgggiophbnghacW.PrintWords Go.Proofs.YtjgggiophbnghacW.PrintLast Go.Proofs.Ytjgggiophbnghac.Math
set_option linter.unusedVariables false
set_option linter.unusedSimpArgs false

-- block l01In
theorem in_eq (a b c : Int) : spec_l01In.f a b c = some (decide (b ≤ a ∧ a ≤ c)) := by
  simp only [spec_l01In.f, if_dec]

-- block rdStep
theorem rdStep {xs : List S84} {i : Nat} (h : i < xs.length) : rd_T84 xs (i : Int) = xs[i] := by
  simp [rd_T84, List.getD_eq_getElem?_getD, List.getElem?_eq_getElem h]

-- block eqStepS
theorem eqStepS_l (l : List S84) (hn : l.length ≤ 1048576) : ∀ (d i : Nat), l.length - i = d → i ≤ l.length → Ev (fun k => laws_eqStepS.l0 k l l (i : Int)) true := by
  intro d
  induction d with
  | zero =>
    intro i h hi
    refine ev_now fun k => ?_
    simp only [laws_eqStepS.l0]
    rw [if_neg (by omega)]
  | succ d ih =>
    intro i h hi
    refine Ev.step (fun k => ?_) (ih (i + 1) (by omega) (by omega))
    simp only [laws_eqStepS.l0, laws_eqStep.f, if_true, Option.bind_some]
    rw [if_pos (by omega), if_pos (by omega), if_pos (by omega), wsucc (by omega)]
theorem eqStepS_ev (l : List S84) (hn : l.length ≤ 1048576) : Ev (fun k => laws_eqStepS.f k l l) true := by
  refine Ev.congr (fun k => ?_) (eqStepS_l l hn l.length 0 (by omega) (by omega))
  simp only [laws_eqStepS.f]
  rw [if_pos trivial]
  all_goals rfl

-- block marksStep
def marksStep (n : Nat) (m : Int) : List S84 := (List.range n).map fun j : Nat => ⟨m + 3 * (j : Int), m + 3 * (j : Int) + 1, m + 3 * (j : Int) + 1 + 1⟩
theorem marksStep_len (n : Nat) (m : Int) : (marksStep n m).length = n := by simp [marksStep]

-- block markStepS
theorem rdStep_set {xs : List S84} {i : Nat} {v : S84} (h : i < xs.length) : rd_T84 (xs.set i v) (i : Int) = v := by
  rw [rdStep (by simpa using h)]; simp
theorem set_markStep {l w : List S84} {x : S84} {i : Nat} (hl : w.length = l.length) (h : i < l.length) (hx : x = w[i]'(by omega)) :
    (w.take i ++ l.drop i).set i x = w.take (i + 1) ++ l.drop (i + 1) := set_mark hl h hx
theorem markStepS_l (l : List S84) (m : Int) (h0 : 0 ≤ m) (hn : m + 3 * l.length ≤ 4611686018427387904) : ∀ (d i : Nat), l.length - i = d → i ≤ l.length →
    Ev (fun k => laws_markStepS.l0 k ((marksStep l.length m).take i ++ l.drop i) (m + 3 * i) (i : Int)) (m + 3 * l.length, marksStep l.length m) := by
  have hlen := marksStep_len l.length m
  intro d
  induction d with
  | zero =>
    intro i h hi
    refine ev_now fun k => ?_
    simp only [laws_markStepS.l0]
    rw [if_neg (by simp; omega), List.take_of_length_le (by omega), List.drop_eq_nil_of_le (by omega), List.append_nil, show i = l.length by omega]
  | succ d ih =>
    intro i h hi
    refine Ev.step (fun k => ?_) (ih (i + 1) (by omega) (by omega))
    have hll : i < ((marksStep l.length m).take i ++ l.drop i).length := by simp; omega
    simp only [laws_markStepS.l0, Option.bind_some, Int.toNat_natCast]
    rw [if_pos (by simp; omega), if_pos (by omega)]
    simp only [rdStep_set, hll, List.length_set, List.set_set, wsucc (show i < 9223372036854775807 by omega)]
    rw [w64 (x := m + 3 * (i : Int) + 1) (by omega) (by omega), w64 (x := m + 3 * (i : Int) + 1 + 1) (by omega) (by omega), w64 (x := m + 3 * (i : Int) + 1 + 1 + 1) (by omega) (by omega)]
    rw [set_markStep hlen (by omega) (by simp [marksStep])]
    simp only [Int.natCast_add, Int.natCast_one, Int.mul_add, Int.mul_one, Int.add_assoc]
    congr 1
theorem markStepS_ev (l : List S84) (m : Int) (h0 : 0 ≤ m) (hn : m + 3 * l.length ≤ 4611686018427387904) : Ev (fun k => laws_markStepS.f k l m) (m + 3 * l.length, marksStep l.length m) := by
  refine Ev.congr (fun k => ?_) (markStepS_l l m h0 hn l.length 0 (by omega) (by omega))
  simp [laws_markStepS.f]

-- block heldStepS
theorem heldStepS_l (n : Nat) (m : Int) (h0 : 0 ≤ m) (hn : m + 3 * n ≤ 4611686018427387904) : ∀ (d i : Nat), n - i = d → i ≤ n →
    Ev (fun k => laws_heldStepS.l0 k (marksStep n m) (m + 3 * i) (i : Int)) (m + 3 * n) := by
  have hlen := marksStep_len n m
  intro d
  induction d with
  | zero =>
    intro i h hi
    refine ev_now fun k => ?_
    simp only [laws_heldStepS.l0]
    rw [if_neg (by omega), show i = n by omega]
  | succ d ih =>
    intro i h hi
    refine Ev.step (fun k => ?_) (ih (i + 1) (by omega) (by omega))
    have hr : rd_T84 (marksStep n m) (i : Int) = ⟨m + 3 * (i : Int), m + 3 * (i : Int) + 1, m + 3 * (i : Int) + 1 + 1⟩ := by rw [rdStep (by omega)]; simp [marksStep]
    simp only [laws_heldStepS.l0, hr]
    rw [if_pos (by omega), if_pos (by omega), wsucc (by omega), w64 (x := m + 3 * (i : Int) + 1) (by omega) (by omega), w64 (x := m + 3 * (i : Int) + 1 + 1) (by omega) (by omega), w64 (x := m + 3 * (i : Int) + 1 + 1 + 1) (by omega) (by omega)]
    simp only [if_true, Int.natCast_add, Int.natCast_one, Int.mul_add, Int.mul_one, Int.add_assoc]
    rfl
theorem heldStepS_ev (n : Nat) (m : Int) (h0 : 0 ≤ m) (hn : m + 3 * n ≤ 4611686018427387904) : Ev (fun k => laws_heldStepS.f k (marksStep n m) m) (m + 3 * n) := by
  refine Ev.congr (fun k => ?_) (heldStepS_l n m h0 hn n 0 (by omega) (by omega))
  simp [laws_heldStepS.f]

-- block fldOk
def fldOk (f : Int) : Prop := 0 ≤ f ∧ f < 9
instance fldOk_dec (f : Int) : Decidable (fldOk f) := by unfold fldOk; infer_instance
def fP : List Int := [17, 97, 193, 257, 7681, 12289, 998244353, 469762049, 1004535809]
def fG : List Int := [3, 5, 5, 3, 17, 11, 3, 3, 3]
def fT : List Int := [4, 5, 6, 8, 9, 12, 23, 26, 21]
theorem fld_cases {f : Int} (h : fldOk f) {Q : Int → Prop} (h0 : Q 0) (h1 : Q 1) (h2 : Q 2) (h3 : Q 3) (h4 : Q 4) (h5 : Q 5) (h6 : Q 6) (h7 : Q 7) (h8 : Q 8) : Q f := by
  unfold fldOk at h
  have : f = 0 ∨ f = 1 ∨ f = 2 ∨ f = 3 ∨ f = 4 ∨ f = 5 ∨ f = 6 ∨ f = 7 ∨ f = 8 := by omega
  rcases this with rfl | rfl | rfl | rfl | rfl | rfl | rfl | rfl | rfl <;> assumption

-- block sMod
def md (f : Int) : Int := if fldOk f then rd fP f else 0
theorem sMod (f : Int) : spec_Modulus.f f = some (md f) := by
  by_cases h : fldOk f
  · exact fld_cases (Q := fun f => spec_Modulus.f f = some (md f)) h rfl rfl rfl rfl rfl rfl rfl rfl rfl
  · unfold md
    rw [if_neg h]
    unfold fldOk at h
    simp only [spec_Modulus.f]
    rw [if_neg (by omega), if_neg (by omega), if_neg (by omega), if_neg (by omega), if_neg (by omega), if_neg (by omega), if_neg (by omega), if_neg (by omega), if_neg (by omega)]
theorem md_pos {f : Int} (h : fldOk f) : 17 ≤ md f ∧ md f ≤ 1004535809 := fld_cases (Q := fun f => 17 ≤ md f ∧ md f ≤ 1004535809) h (by decide) (by decide) (by decide) (by decide) (by decide) (by decide) (by decide) (by decide) (by decide)
theorem md_zero {f : Int} : md f = 0 ↔ ¬ fldOk f := by
  by_cases h : fldOk f
  · have := md_pos h
    simp [h]; omega
  · simp [md, h]

-- block iFld
theorem iFld (f : Int) : impl_fieldOf.f f = some (if fldOk f then (rd fP f, rd fG f, rd fT f, true) else (0, 0, 0, false)) := by
  by_cases h : fldOk f
  · exact fld_cases (Q := fun f => impl_fieldOf.f f = some (if fldOk f then (rd fP f, rd fG f, rd fT f, true) else (0, 0, 0, false))) h rfl rfl rfl rfl rfl rfl rfl rfl rfl
  · rw [if_neg h]
    unfold fldOk at h
    show Go.Proofs.Ytjgggiophbnghac.Fld.impl_fieldOf.f f = _
    unfold Go.Proofs.Ytjgggiophbnghac.Fld.impl_fieldOf.f
    by_cases h1 : f < 0
    · rw [if_pos h1]
    · rw [if_neg h1, if_pos (by omega)]

-- block sTwo
def two (f : Int) : Int := if fldOk f then rd fT f else -1
theorem sTwo_ev (f : Int) : Ev (fun k => spec_TwoPower.f k f) (two f) := by
  by_cases h : fldOk f
  · exact fld_cases (Q := fun f => Ev (fun k => spec_TwoPower.f k f) (two f)) h (Ev.of (fun k => spec_TwoPower.mono _ k) (k := 40) (by decide +kernel)) (Ev.of (fun k => spec_TwoPower.mono _ k) (k := 40) (by decide +kernel)) (Ev.of (fun k => spec_TwoPower.mono _ k) (k := 40) (by decide +kernel)) (Ev.of (fun k => spec_TwoPower.mono _ k) (k := 40) (by decide +kernel)) (Ev.of (fun k => spec_TwoPower.mono _ k) (k := 40) (by decide +kernel)) (Ev.of (fun k => spec_TwoPower.mono _ k) (k := 40) (by decide +kernel)) (Ev.of (fun k => spec_TwoPower.mono _ k) (k := 40) (by decide +kernel)) (Ev.of (fun k => spec_TwoPower.mono _ k) (k := 40) (by decide +kernel)) (Ev.of (fun k => spec_TwoPower.mono _ k) (k := 40) (by decide +kernel))
  · unfold two
    rw [if_neg h]
    refine ev_some fun k => ?_
    simp only [spec_TwoPower.f, sMod, Option.bind_some, md_zero, h, not_false_eq_true, if_true]

-- block logP
def logP (f k : Int) : Prop := fldOk f ∧ 0 ≤ k ∧ k ≤ 9 ∧ k ≤ rd fT f
instance logP_dec (f k : Int) : Decidable (logP f k) := by unfold logP; infer_instance

-- block sLog
theorem sLog_ev (f k0 : Int) : Ev (fun k => spec_l09Log.f k f k0) (decide (logP f k0)) := by
  obtain ⟨n, e⟩ := evs1 (sTwo_ev f)
  refine ⟨n, fun k hk => ?_⟩
  obtain ⟨j, rfl⟩ : ∃ j, k = n + j := ⟨k - n, by omega⟩
  simp only [spec_l09Log.f, sMod, in_eq, e, Option.bind_some, decide_eq_true_eq]
  by_cases h : fldOk f
  · have hm := md_pos h
    rw [if_pos (by omega)]
    by_cases h1 : 0 ≤ k0 ∧ k0 ≤ 9
    · rw [if_pos h1]
      exact congrArg some (decide_eq_decide.2 (by unfold two logP; simp [h, h1]))
    · rw [if_neg h1, decide_eq_false (by unfold logP; omega)]
  · rw [if_neg (by have := md_zero.2 h; omega), decide_eq_false (by unfold logP; simp [h])]

-- block cutL
/-- A step's range in ranges of so many at the most. -/
def cutL (lv most en : Int) : Nat → Int → List S84
  | 0, _ => []
  | d + 1, fr => if fr < en then ⟨lv, fr, fr + (if most < en - fr then most else en - fr)⟩ :: cutL lv most en d (fr + (if most < en - fr then most else en - fr)) else []
theorem cutL_more {lv most en : Int} (hm : 1 ≤ most) : ∀ (d e : Nat) (fr : Int), (en - fr).toNat ≤ d → (en - fr).toNat ≤ e → cutL lv most en d fr = cutL lv most en e fr := by
  intro d
  induction d with
  | zero =>
    intro e fr h1 h2
    cases e with
    | zero => rfl
    | succ e => rw [cutL, cutL, if_neg (by omega)]
  | succ d ih =>
    intro e fr h1 h2
    cases e with
    | zero => rw [cutL, cutL, if_neg (by omega)]
    | succ e =>
      rw [cutL, cutL]
      by_cases h : fr < en
      · rw [if_pos h, if_pos h]
        congr 1
        exact ih _ _ (by split <;> omega) (by split <;> omega)
      · rw [if_neg h, if_neg h]
def cut (lv most fr en : Int) : List S84 := cutL lv most en (en - fr).toNat fr
theorem cut_no {lv most fr en : Int} (h : ¬ fr < en) : cut lv most fr en = [] := by
  unfold cut
  cases (en - fr).toNat with
  | zero => rfl
  | succ d => rw [cutL, if_neg h]
theorem cut_yes {lv most fr en : Int} (hm : 1 ≤ most) (h : fr < en) : cut lv most fr en = ⟨lv, fr, fr + (if most < en - fr then most else en - fr)⟩ :: cut lv most (fr + (if most < en - fr then most else en - fr)) en := by
  unfold cut
  obtain ⟨d, hd⟩ : ∃ d, (en - fr).toNat = d + 1 := ⟨(en - fr).toNat - 1, by omega⟩
  rw [hd, cutL, if_pos h]
  congr 1
  exact cutL_more hm _ _ _ (by split <;> omega) (by split <;> omega)
theorem cut_len {lv most en : Int} (hm : 1 ≤ most) : ∀ (d : Nat) (fr : Int), (cutL lv most en d fr).length ≤ (en - fr).toNat := by
  intro d
  induction d with
  | zero => intro fr; simp [cutL]
  | succ d ih =>
    intro fr
    rw [cutL]
    by_cases h : fr < en
    · rw [if_pos h]
      have := ih (fr + (if most < en - fr then most else en - fr))
      rw [List.length_cons]
      split at this <;> split <;> omega
    · rw [if_neg h]; simp

-- block sCut
theorem sCut_l {lv most en fr0 : Int} (hm : 1 ≤ most) (hto : en ≤ 1048576) : ∀ (d : Nat) (acc : List S84) (fr : Int), (en - fr).toNat ≤ d → 0 ≤ fr → acc.length ≤ 601 →
    Ev (fun k => spec_l09Cut.l0 k acc most fr lv fr0 en) ((acc ++ cut lv most fr en).take 601) := by
  intro d
  induction d with
  | zero =>
    intro acc fr h h0 ha
    refine Ev.step (f := fun k => spec_l09Cut.j1 k acc most fr false lv fr0 en) (fun k => ?_) (ev_now fun k => ?_)
    · simp only [spec_l09Cut.l0]
      rw [if_neg (by omega)]
    · simp only [spec_l09Cut.j1, Bool.false_eq_true, if_false]
      rw [cut_no (by omega), List.append_nil, List.take_of_length_le ha]
  | succ d ih =>
    intro acc fr h h0 ha
    by_cases hlt : fr < en
    · by_cases hl : acc.length ≤ 600
      · refine Ev.step (f := fun k => spec_l09Cut.j1 k acc most fr true lv fr0 en) (fun k => ?_) ?_
        · simp only [spec_l09Cut.l0]
          rw [if_pos hlt, decide_eq_true (by omega)]
        · rw [cut_yes hm hlt]
          by_cases hw : most < en - fr
          · simp only [if_pos hw]
            have := ih (acc ++ [⟨lv, fr, fr + most⟩]) (fr + most) (by omega) (by omega) (by simp; omega)
            refine Ev.step (fun k => ?_) (by simpa using this)
            simp only [spec_l09Cut.j1, if_true]
            rw [w64 (x := en - fr) (by omega) (by omega), if_pos hw, if_pos (by omega), w64 (x := fr + most) (by omega) (by omega)]
          · simp only [if_neg hw]
            have := ih (acc ++ [⟨lv, fr, en⟩]) en (by omega) (by omega) (by simp; omega)
            rw [show fr + (en - fr) = en by omega]
            refine Ev.step (fun k => ?_) (by simpa using this)
            simp only [spec_l09Cut.j1, if_true]
            rw [w64 (x := en - fr) (by omega) (by omega), if_neg hw, if_pos (by omega)]
      · refine Ev.step (f := fun k => spec_l09Cut.j1 k acc most fr false lv fr0 en) (fun k => ?_) (ev_now fun k => ?_)
        · simp only [spec_l09Cut.l0]
          rw [if_pos hlt, decide_eq_false (by omega)]
        · simp only [spec_l09Cut.j1, Bool.false_eq_true, if_false]
          rw [List.take_append_of_le_length (by omega), List.take_of_length_le ha]
    · refine Ev.step (f := fun k => spec_l09Cut.j1 k acc most fr false lv fr0 en) (fun k => ?_) (ev_now fun k => ?_)
      · simp only [spec_l09Cut.l0]
        rw [if_neg hlt]
      · simp only [spec_l09Cut.j1, Bool.false_eq_true, if_false]
        rw [cut_no hlt, List.append_nil, List.take_of_length_le ha]
theorem sCut_ev {lv most fr en : Int} (hm : 1 ≤ most) (hto : en ≤ 1048576) (h0 : 0 ≤ fr) (acc : List S84) (ha : acc.length ≤ 601) :
    Ev (fun k => spec_l09Cut.f k acc lv fr en most) ((acc ++ cut lv most fr en).take 601) :=
  Ev.congr (fun k => rfl) (sCut_l (fr0 := fr) hm hto (en - fr).toNat acc fr (Nat.le_refl _) h0 ha)

-- block iRanges
theorem iRanges_l {lv most en : Int} (hm : 1 ≤ most) (hto : en ≤ 1048576) : ∀ (d : Nat) (acc : List S84) (fr : Int), (en - fr).toNat ≤ d → 0 ≤ fr → acc.length + d ≤ 4194304 →
    Ev (fun k => impl_ranges.l0 k most acc lv fr en) (acc ++ cut lv most fr en) := by
  intro d
  induction d with
  | zero =>
    intro acc fr h h0 ha
    refine ev_now fun k => ?_
    simp only [impl_ranges.l0]
    rw [if_neg (by omega), cut_no (by omega), List.append_nil]
  | succ d ih =>
    intro acc fr h h0 ha
    by_cases hlt : fr < en
    · rw [cut_yes hm hlt]
      have := ih (acc ++ [⟨lv, fr, fr + (if most < en - fr then most else en - fr)⟩]) (fr + (if most < en - fr then most else en - fr)) (by split <;> omega) (by split <;> omega) (by simp; omega)
      refine Ev.step (fun k => ?_) (by simpa using this)
      simp only [impl_ranges.l0]
      rw [if_pos hlt, if_pos (by omega), w64 (x := en - fr) (by omega) (by omega), mn_eq, w64 (x := fr + _) (by split <;> omega) (by split <;> omega)]
    · refine ev_now fun k => ?_
      simp only [impl_ranges.l0]
      rw [if_neg hlt, cut_no hlt, List.append_nil]
theorem iRanges_ev {lv most fr en : Int} (hm : 1 ≤ most) (hto : en ≤ 1048576) (h0 : 0 ≤ fr) : Ev (fun k => impl_ranges.f k lv fr en most) (cut lv most fr en) :=
  by
    have := iRanges_l (lv := lv) hm hto (en - fr).toNat [] fr (Nat.le_refl _) h0 (by simp; omega)
    rw [List.nil_append] at this
    exact Ev.congr (fun k => rfl) this

-- block halfK
def halfK (k : Int) : Int := 2 ^ (k.toNat - 1)
theorem shl_half {k : Int} (h1 : 1 ≤ k) (h9 : k ≤ 9) : shl .i64 1 (wrap64 (k - 1)) = halfK k ∧ wrap64 (Int.tdiv (shl .i64 1 (IntKind.u64.wrap k)) 2) = halfK k ∧ 1 ≤ halfK k ∧ halfK k ≤ 256 := by
  have : k = 1 ∨ k = 2 ∨ k = 3 ∨ k = 4 ∨ k = 5 ∨ k = 6 ∨ k = 7 ∨ k = 8 ∨ k = 9 := by omega
  rcases this with rfl | rfl | rfl | rfl | rfl | rfl | rfl | rfl | rfl <;> decide +kernel

-- block levels
/-- The steps of the levels from i on. -/
def levels (k most : Int) : Nat → Nat → List S84
  | 0, _ => []
  | d + 1, i => cut (i : Int) most 0 (halfK k) ++ levels k most d (i + 1)
theorem levels_len {k most : Int} (h1 : 1 ≤ k) (h9 : k ≤ 9) (hm : 1 ≤ most) : ∀ (d i : Nat), (levels k most d i).length ≤ 256 * d := by
  have hh := (shl_half h1 h9).2.2
  intro d
  induction d with
  | zero => intro i; simp [levels]
  | succ d ih =>
    intro i
    have c := cut_len (lv := (i : Int)) (en := halfK k) hm (halfK k - 0).toNat 0
    have := ih (i + 1)
    rw [levels, List.length_append]
    unfold cut
    omega
def planP (f k most : Int) : Int × Int × List S84 × Bool :=
  if logP f k ∧ 1 ≤ most ∧ (levels k most k.toNat 0).length ≤ 600 then (f, k, levels k most k.toNat 0, true) else (0, 0, [], false)

-- block sPlan
theorem take_take {α : Type} (a b : List α) (n : Nat) : (a.take n ++ b).take n = (a ++ b).take n := by
  rw [List.take_append, List.take_append, List.length_take, List.take_take, Nat.min_self]
  congr 1
  by_cases h : a.length ≤ n
  · rw [Nat.min_eq_right h]
  · rw [show n - min n a.length = 0 by omega, show n - a.length = 0 by omega]
theorem sPlan_l {f k most : Int} (h0 : 0 ≤ k) (h9 : k ≤ 9) (hm : 1 ≤ most) : ∀ (d i : Nat) (acc : List S84), k.toNat - i = d → i ≤ k.toNat → acc.length ≤ 601 →
    Ev (fun n => spec_MakePlan.l0 n f k most acc (i : Int)) (if ((acc ++ levels k most d i).take 601).length > 600 then (0, 0, [], false) else (f, k, (acc ++ levels k most d i).take 601, true)) := by
  intro d
  induction d with
  | zero =>
    intro i acc h hi ha
    refine ev_now fun n => ?_
    simp only [spec_MakePlan.l0, levels, List.append_nil]
    rw [List.take_of_length_le ha, if_neg (by omega)]
    by_cases hl : acc.length > 600
    · rw [if_pos (by omega), if_pos hl]
    · rw [if_neg (by omega), if_neg hl]
  | succ d ih =>
    intro i acc h hi ha
    have hh := shl_half (k := k) (by omega) h9
    have key := ih (i + 1) ((acc ++ cut (i : Int) most 0 (halfK k)).take 601) (by omega) (by omega) (by rw [List.length_take]; omega)
    rw [take_take, List.append_assoc] at key
    rw [levels]
    refine Ev.step (fun n => ?_) (Ev.bind (sCut_ev (lv := (i : Int)) (fr := 0) (en := halfK k) hm (by omega) (by omega) acc ha) (f := fun n t => spec_MakePlan.l0 n f k most t ((i + 1 : Nat) : Int)) key)
    simp only [spec_MakePlan.l0]
    rw [if_pos (by omega), if_pos (by have : k = 1 ∨ k = 2 ∨ k = 3 ∨ k = 4 ∨ k = 5 ∨ k = 6 ∨ k = 7 ∨ k = 8 ∨ k = 9 := by omega
                                      rcases this with rfl | rfl | rfl | rfl | rfl | rfl | rfl | rfl | rfl <;> decide +kernel), hh.2.1, wsucc (by omega)]
theorem sPlan_ev (f k most : Int) : Ev (fun n => spec_MakePlan.f n f k most) (planP f k most) := by
  obtain ⟨m, e⟩ := evs1 (sLog_ev f k)
  have no : Ev (fun n => spec_MakePlan.j0 n f k most true) (0, 0, [], false) := ev_now fun n => by simp [spec_MakePlan.j0]
  unfold planP
  by_cases h : logP f k
  · have hl := h
    unfold logP at hl
    by_cases hm : 1 ≤ most
    · have key := sPlan_l (f := f) hl.2.1 hl.2.2.1 hm k.toNat 0 [] (by omega) (by omega) (by simp)
      rw [List.nil_append] at key
      have key2 : Ev (fun n => spec_MakePlan.j0 n f k most false) (if logP f k ∧ 1 ≤ most ∧ (levels k most k.toNat 0).length ≤ 600 then (f, k, levels k most k.toNat 0, true) else (0, 0, [], false)) := by
        refine Ev.step (f := fun n => spec_MakePlan.l0 n f k most [] ((0 : Nat) : Int)) (fun n => by simp [spec_MakePlan.j0]) ?_
        by_cases hx : (levels k most k.toNat 0).length ≤ 600
        · rw [List.take_of_length_le (by omega), if_neg (by omega)] at key
          rw [if_pos ⟨h, hm, hx⟩]
          exact key
        · rw [if_pos (by rw [List.length_take]; omega)] at key
          rw [if_neg (fun hh => hx hh.2.2)]
          exact key
      obtain ⟨m2, e2⟩ := evs1 key2
      refine ⟨m + m2, fun n hn => ?_⟩
      obtain ⟨j, rfl⟩ : ∃ j, n = m + j := ⟨n - m, by omega⟩
      obtain ⟨j2, hj2⟩ : ∃ j2, m + j = m2 + j2 := ⟨m + j - m2, by omega⟩
      simp only [spec_MakePlan.f, e, Option.bind_some, decide_eq_true_eq]
      rw [if_pos h, decide_eq_false (by omega), hj2, e2]
    · rw [if_neg (fun hh => hm hh.2.1)]
      obtain ⟨m2, e2⟩ := evs1 no
      refine ⟨m + m2, fun n hn => ?_⟩
      obtain ⟨j, rfl⟩ : ∃ j, n = m + j := ⟨n - m, by omega⟩
      obtain ⟨j2, hj2⟩ : ∃ j2, m + j = m2 + j2 := ⟨m + j - m2, by omega⟩
      simp only [spec_MakePlan.f, e, Option.bind_some, decide_eq_true_eq]
      rw [if_pos h, decide_eq_true (by omega), hj2, e2]
  · rw [if_neg (fun hh => h hh.1)]
    obtain ⟨m2, e2⟩ := evs1 no
    refine ⟨m + m2, fun n hn => ?_⟩
    obtain ⟨j, rfl⟩ : ∃ j, n = m + j := ⟨n - m, by omega⟩
    obtain ⟨j2, hj2⟩ : ∃ j2, m + j = m2 + j2 := ⟨m + j - m2, by omega⟩
    simp only [spec_MakePlan.f, e, Option.bind_some, decide_eq_true_eq]
    rw [if_neg h, hj2, e2]

-- block iPlan
theorem iPlan_l {f k most : Int} (h0 : 0 ≤ k) (h9 : k ≤ 9) (hm : 1 ≤ most) : ∀ (d i : Nat) (acc : List S84), k.toNat - i = d → i ≤ k.toNat → acc.length + 256 * d ≤ 1048576 →
    Ev (fun n => impl_MakePlan.l0 n k most k (i : Int) f k acc) (if (acc ++ levels k most d i).length > 600 then (0, 0, [], false) else (f, k, acc ++ levels k most d i, true)) := by
  intro d
  induction d with
  | zero =>
    intro i acc h hi ha
    refine ev_now fun n => ?_
    simp only [impl_MakePlan.l0, levels, List.append_nil]
    rw [if_neg (by omega)]
    by_cases hl : acc.length > 600
    · rw [if_pos (by omega), if_pos hl]
    · rw [if_neg (by omega), if_neg hl]
  | succ d ih =>
    intro i acc h hi ha
    have hh := shl_half (k := k) (by omega) h9
    have c := cut_len (lv := (i : Int)) (en := halfK k) hm (halfK k - 0).toNat 0
    have c' : (cut (i : Int) most 0 (halfK k)).length ≤ 256 := by unfold cut; omega
    have key := ih (i + 1) (acc ++ cut (i : Int) most 0 (halfK k)) (by omega) (by omega) (by rw [List.length_append]; omega)
    rw [List.append_assoc] at key
    rw [levels]
    refine Ev.step (fun n => ?_) (Ev.bind (iRanges_ev (lv := (i : Int)) (fr := 0) (en := halfK k) hm (by omega) (by omega)) (f := fun n t => if acc.length + t.length < 5864062014805 then impl_MakePlan.l0 n k most k ((i + 1 : Nat) : Int) f k (acc ++ t) else none) ?_)
    · simp only [impl_MakePlan.l0]
      rw [if_pos (by omega), if_pos (by rw [w64 (by omega) (by omega)]; omega), hh.1, wsucc (by omega)]
    · exact Ev.congr (fun n => if_pos (by omega)) key
theorem iPlan_ev (f k most : Int) : Ev (fun n => impl_MakePlan.f n f k most) (planP f k most) := by
  have no : Ev (fun n => impl_MakePlan.j0 n f k most true) (0, 0, [], false) := ev_now fun n => by simp [impl_MakePlan.j0]
  unfold planP
  by_cases h : logP f k
  · have hl := h
    unfold logP at hl
    have hmn : ¬ k > mn 9 (rd fT f) := by rw [mn_eq]; split <;> omega
    by_cases hm : 1 ≤ most
    · have key := iPlan_l (f := f) hl.2.1 hl.2.2.1 hm k.toNat 0 [] (by omega) (by omega) (by simp; omega)
      rw [List.nil_append] at key
      have key2 : Ev (fun n => impl_MakePlan.j0 n f k most false) (if logP f k ∧ 1 ≤ most ∧ (levels k most k.toNat 0).length ≤ 600 then (f, k, levels k most k.toNat 0, true) else (0, 0, [], false)) := by
        refine Ev.step (f := fun n => impl_MakePlan.l0 n k most k ((0 : Nat) : Int) f k []) (fun n => by simp [impl_MakePlan.j0]) ?_
        by_cases hx : (levels k most k.toNat 0).length ≤ 600
        · rw [if_neg (by omega)] at key
          rw [if_pos ⟨h, hm, hx⟩]
          exact key
        · rw [if_pos (by omega)] at key
          rw [if_neg (fun hh => hx hh.2.2)]
          exact key
      refine Ev.congr (fun n => ?_) key2
      simp only [impl_MakePlan.f, iFld, if_pos hl.1, Option.bind_some, if_true]
      rw [if_neg (by omega), if_neg hmn, decide_eq_false (by omega)]
    · rw [if_neg (fun hh => hm hh.2.1)]
      refine Ev.congr (fun n => ?_) no
      simp only [impl_MakePlan.f, iFld, if_pos hl.1, Option.bind_some, if_true]
      rw [if_neg (by omega), if_neg hmn, decide_eq_true (by omega)]
  · rw [if_neg (fun hh => h hh.1)]
    refine Ev.congr (fun n => ?_) no
    simp only [impl_MakePlan.f, iFld, Option.bind_some]
    by_cases hf : fldOk f
    · simp only [if_pos hf, if_true]
      by_cases h1 : k < 0
      · rw [if_pos h1]
      · rw [if_neg h1, if_pos]
        rw [mn_eq]
        have : ¬ (k ≤ 9 ∧ k ≤ rd fT f) := fun hh => h ⟨hf, by omega, hh.1, hh.2⟩
        split <;> omega
    · simp only [if_neg hf, Bool.false_eq_true, if_false]
theorem planP_len (f k most : Int) : (planP f k most).2.2.1.length ≤ 600 := by
  unfold planP
  split
  · rename_i h; exact h.2.2
  · simp

-- block eqPlan
theorem eqPlan_ev (a b : Int) (l : List S84) (hn : l.length ≤ 1048576) : Ev (fun k => laws_eqPlan.f k a b l a b l) true := by
  obtain ⟨m, e⟩ := evs1 (eqStepS_ev l hn)
  refine ⟨m, fun k hk => ?_⟩
  obtain ⟨j, rfl⟩ : ∃ j, k = m + j := ⟨k - m, by omega⟩
  simp only [laws_eqPlan.f, e, Option.bind_some, if_true]

-- block markPlan
theorem markPlan_ev (a b : Int) (l : List S84) (m : Int) (h0 : 0 ≤ m) (hn : m + 3 * l.length ≤ 4611686018427387904) : Ev (fun k => laws_markPlan.f k a b l m) (m + 3 * l.length, marksStep l.length m) := by
  obtain ⟨n, e⟩ := evs1 (markStepS_ev l m h0 hn)
  refine ⟨n, fun k hk => ?_⟩
  obtain ⟨j, rfl⟩ : ∃ j, k = n + j := ⟨k - n, by omega⟩
  simp only [laws_markPlan.f, e, Option.bind_some]

-- block heldPlan
theorem heldPlan_ev (a b : Int) (n : Nat) (m : Int) (h0 : 0 ≤ m) (hn : m + 3 * n ≤ 4611686018427387904) : Ev (fun k => laws_heldPlan.f k a b (marksStep n m) m) (m + 3 * n) := by
  obtain ⟨q, e⟩ := evs1 (heldStepS_ev n m h0 hn)
  refine ⟨q, fun k hk => ?_⟩
  obtain ⟨j, rfl⟩ : ∃ j, k = q + j := ⟨k - q, by omega⟩
  simp only [laws_heldPlan.f, e, Option.bind_some]
  rw [if_neg (by omega)]

end Go.Proofs.Ytjgggiophbnghac.QFnExactMakePlan

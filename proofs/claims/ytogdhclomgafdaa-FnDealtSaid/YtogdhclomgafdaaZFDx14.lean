/- Lemmas on the printed functions of FnDealt: what each comes to. -/
import Derived.Test.YtogdhclomgafdaaZFDx13
namespace Go.Proofs.Ytogdhclomgafdaa.QFnDealt
open Go.RowKit Go.Proofs.Ytogdhclomgafdaa.PFnDealt Go.Proofs.YtogdhclomgafdaaW.PrintWords Go.Proofs.YtogdhclomgafdaaW.PrintLast Go.Proofs.Ytogdhclomgafdaa.Math
set_option linter.unusedVariables false
set_option linter.unusedSimpArgs false

theorem in_eq (a b c : Int) : spec_l01In.f a b c = some (decide (b ≤ a ∧ a ≤ c)) := by
 simp only [spec_l01In.f, if_dec]

theorem rdStep {xs : List S93} {i : Nat} (h : i < xs.length) : rd_T93 xs (i : Int) = xs[i] := by
 simp [rd_T93, List.getD_eq_getElem?_getD, List.getElem?_eq_getElem h]

def fldOk (f : Int) : Prop := 0 ≤ f ∧ f < 9
instance fldOk_dec (f : Int) : Decidable (fldOk f) := by unfold fldOk; infer_instance
def fP : List Int := [17, 97, 193, 257, 7681, 12289, 998244353, 469762049, 1004535809]
def fG : List Int := [3, 5, 5, 3, 17, 11, 3, 3, 3]
def fT : List Int := [4, 5, 6, 8, 9, 12, 23, 26, 21]
theorem fld_cases {f : Int} (h : fldOk f) {Q : Int → Prop} (h0 : Q 0) (h1 : Q 1) (h2 : Q 2) (h3 : Q 3) (h4 : Q 4) (h5 : Q 5) (h6 : Q 6) (h7 : Q 7) (h8 : Q 8) : Q f := by
 unfold fldOk at h
 have : f = 0 ∨ f = 1 ∨ f = 2 ∨ f = 3 ∨ f = 4 ∨ f = 5 ∨ f = 6 ∨ f = 7 ∨ f = 8 := by omega
 rcases this with rfl | rfl | rfl | rfl | rfl | rfl | rfl | rfl | rfl <;> assumption

def md (f : Int) : Int := if fldOk f then rd fP f else 0
theorem sMod (f : Int) : spec_Modulus.f f = some (md f) := by
 by_cases h : fldOk f
 · exact fld_cases (Q := fun f => spec_Modulus.f f = some (md f)) h rfl rfl rfl rfl rfl rfl rfl rfl rfl
 · unfold md
   rw [if_neg h]
   unfold fldOk at h
   simp only [spec_Modulus.f]
   rw [if_neg (by omega), if_neg (by omega), if_neg (by omega), if_neg (by omega), if_neg (by omega), if_neg (by omega), if_neg (by omega), if_neg (by omega), if_neg (by omega)]
theorem md_pos {f : Int} (h : fldOk f) : 17 ≤ md f ∧ md f ≤ 1004535809 := fld_cases (Q := fun f => 17 ≤ md f ∧ md f ≤ 1004535809) h (by decide) (by decide) (by decide) (by decide) (by decide) (by decide) (by decide) (by decide) (by decide)
theorem md_zero {f : Int} : md f = 0 ↔ ¬ fldOk f := by
 by_cases h : fldOk f
 · have := md_pos h
   simp [h]; omega
 · simp [md, h]

theorem iFld (f : Int) : impl_fieldOf.f f = some (if fldOk f then (rd fP f, rd fG f, rd fT f, true) else (0, 0, 0, false)) := by
 by_cases h : fldOk f
 · exact fld_cases (Q := fun f => impl_fieldOf.f f = some (if fldOk f then (rd fP f, rd fG f, rd fT f, true) else (0, 0, 0, false))) h rfl rfl rfl rfl rfl rfl rfl rfl rfl
 · rw [if_neg h]
   unfold fldOk at h
   show Go.Proofs.Ytogdhclomgafdaa.Fld.impl_fieldOf.f f = _
   unfold Go.Proofs.Ytogdhclomgafdaa.Fld.impl_fieldOf.f
   by_cases h1 : f < 0
   · rw [if_pos h1]
   · rw [if_neg h1, if_pos (by omega)]

def elemB (p : Int) (l : List Int) : Bool := allF l.length 0 (fun j => decide (0 ≤ rd l (j : Int) ∧ rd l (j : Int) < p))
theorem elemB_iff (p : Int) (l : List Int) : elemB p l = true ↔ ∀ x ∈ l, 0 ≤ x ∧ x < p := by
 unfold elemB
 rw [allF_iff]
 constructor
 · intro h x hx
   obtain ⟨j, hj, rfl⟩ := List.getElem_of_mem hx
   have := h j (by omega) (by omega)
   rw [decide_eq_true_eq, rd_eq hj] at this
   exact this
 · intro h j _ hj
   rw [decide_eq_true_eq, rd_eq (by omega)]
   exact h _ (List.getElem_mem _)

def two (f : Int) : Int := if fldOk f then rd fT f else -1

theorem sTwo_ev (f : Int) : Ev (fun k => spec_TwoPower.f k f) (two f) := by
 by_cases h : fldOk f
 · exact fld_cases (Q := fun f => Ev (fun k => spec_TwoPower.f k f) (two f)) h (Ev.of (fun k => spec_TwoPower.mono _ k) (k := 40) (by decide +kernel)) (Ev.of (fun k => spec_TwoPower.mono _ k) (k := 40) (by decide +kernel)) (Ev.of (fun k => spec_TwoPower.mono _ k) (k := 40) (by decide +kernel)) (Ev.of (fun k => spec_TwoPower.mono _ k) (k := 40) (by decide +kernel)) (Ev.of (fun k => spec_TwoPower.mono _ k) (k := 40) (by decide +kernel)) (Ev.of (fun k => spec_TwoPower.mono _ k) (k := 40) (by decide +kernel)) (Ev.of (fun k => spec_TwoPower.mono _ k) (k := 40) (by decide +kernel)) (Ev.of (fun k => spec_TwoPower.mono _ k) (k := 40) (by decide +kernel)) (Ev.of (fun k => spec_TwoPower.mono _ k) (k := 40) (by decide +kernel))
 · unfold two
   rw [if_neg h]
   refine ev_some fun k => ?_
   simp only [spec_TwoPower.f, sMod, Option.bind_some, md_zero, h, not_false_eq_true, if_true]

def logP (f k : Int) : Prop := fldOk f ∧ 0 ≤ k ∧ k ≤ 9 ∧ k ≤ rd fT f
instance logP_dec (f k : Int) : Decidable (logP f k) := by unfold logP; infer_instance

theorem sLog_ev (f k0 : Int) : Ev (fun k => spec_l09Log.f k f k0) (decide (logP f k0)) := by
 obtain ⟨n, e⟩ := evs1 (sTwo_ev f)
 refine ⟨n, fun k hk => ?_⟩
 obtain ⟨j, rfl⟩ : ∃ j, k = n + j := ⟨k - n, by omega⟩
 simp only [spec_l09Log.f, sMod, in_eq, e, Option.bind_some, decide_eq_true_eq]
 by_cases h : fldOk f
 · have hm := md_pos h
   rw [if_pos (by omega)]
   by_cases h1 : 0 ≤ k0 ∧ k0 ≤ 9
   · rw [if_pos h1]
     exact congrArg some (decide_eq_decide.2 (by unfold two logP; simp [h, h1]))
   · rw [if_neg h1, decide_eq_false (by unfold logP; omega)]
 · rw [if_neg (by have := md_zero.2 h; omega), decide_eq_false (by unfold logP; simp [h])]

def halfK (k : Int) : Int := 2 ^ (k.toNat - 1)
theorem shl_half {k : Int} (h1 : 1 ≤ k) (h9 : k ≤ 9) : shl .i64 1 (wrap64 (k - 1)) = halfK k ∧ wrap64 (Int.tdiv (shl .i64 1 (IntKind.u64.wrap k)) 2) = halfK k ∧ 1 ≤ halfK k ∧ halfK k ≤ 256 := by
 have : k = 1 ∨ k = 2 ∨ k = 3 ∨ k = 4 ∨ k = 5 ∨ k = 6 ∨ k = 7 ∨ k = 8 ∨ k = 9 := by omega
 rcases this with rfl | rfl | rfl | rfl | rfl | rfl | rfl | rfl | rfl <;> decide +kernel

def dAt (l : List Int) (i : Int) : Prop := 0 ≤ i ∧ i ≤ l.length
theorem drawByte (l : List Int) (hn : l.length ≤ 140737488355328) (i h : Int) (hi : dAt l i) : ∃ b i' h', spec_l01Byte.f l i h = some (b, i', h') ∧ (0 ≤ b ∧ b ≤ 255) ∧ dAt l i' := by
 unfold dAt at hi ⊢
 simp only [spec_l01Byte.f]
 by_cases hl : i < (l.length : Int)
 · rw [if_pos hl, if_pos hi.1]
   exact ⟨_, _, _, rfl, bits_and _ 255 (by decide), by rw [w64 (by omega) (by omega)]; omega⟩
 · rw [if_neg hl]
   exact ⟨_, _, _, rfl, bits_and _ 255 (by decide), hi⟩

theorem drawBelow (l : List Int) (hn : l.length ≤ 140737488355328) (i h : Int) (hi : dAt l i) (m : Int) : ∃ b i' h', spec_l01Below.f l i h m = some (b, i', h') ∧ (0 ≤ b ∧ (b < m ∨ b = 0)) ∧ dAt l i' := by
 simp only [spec_l01Below.f]
 by_cases h0 : m ≤ 0
 · rw [if_pos h0]
   exact ⟨_, _, _, rfl, by omega, hi⟩
 · rw [if_neg h0]
   obtain ⟨b1, i1, h1, e1, r1, d1⟩ := drawByte l hn i h hi
   rw [e1]
   by_cases hm : m ≤ 256
   · rw [if_pos hm, Option.bind_some, if_neg (by omega)]
     refine ⟨_, _, _, rfl, ?_, d1⟩
     simp only
     rw [Int.tmod_eq_emod_of_nonneg (by omega)]
     exact ⟨Int.emod_nonneg _ (by omega), Or.inl (Int.emod_lt_of_pos _ (by omega))⟩
   · rw [if_neg hm, Option.bind_some]
     obtain ⟨b2, i2, h2, e2, r2, d2⟩ := drawByte l hn i1 h1 d1
     rw [e2, Option.bind_some]
     obtain ⟨b3, i3, h3, e3, r3, d3⟩ := drawByte l hn i2 h2 d2
     rw [e3, Option.bind_some, if_neg (by omega)]
     refine ⟨_, _, _, rfl, ?_, d3⟩
     simp only
     rw [w64 (x := b1 * 65536) (by omega) (by omega), w64 (x := b2 * 256) (by omega) (by omega), w64 (x := b1 * 65536 + b2 * 256) (by omega) (by omega), w64 (by omega) (by omega), Int.tmod_eq_emod_of_nonneg (by omega)]
     exact ⟨Int.emod_nonneg _ (by omega), Or.inl (Int.emod_lt_of_pos _ (by omega))⟩

theorem drawPickInt (l : List Int) (hn : l.length ≤ 140737488355328) (i h : Int) (hi : dAt l i) (xs : List Int) (hx : 0 < xs.length) : ∃ b i' h', spec_l01PickInt.f l i h xs = some (b, i', h') ∧ b ∈ xs ∧ dAt l i' := by
 simp only [spec_l01PickInt.f]
 obtain ⟨b1, i1, h1, e1, r1, d1⟩ := drawBelow l hn i h hi (xs.length : Int)
 rw [e1, Option.bind_some, if_pos r1.1, if_pos (by simp only; omega)]
 refine ⟨_, _, _, rfl, ?_, d1⟩
 simp only
 rw [show b1 = ((b1.toNat : Nat) : Int) by omega]
 exact rd_mem (by omega)

theorem drawNew_l (l : List Int) (hn : l.length ≤ 140737488355328) : ∀ (d i : Nat) (h : Int), 4000 - i = d → ∃ h', Ev (fun k => spec_l01New.l0 k l h (i : Int)) (l, 0, h') := by
 intro d
 induction d with
 | zero =>
  intro i h hd
  refine ⟨h, ev_now fun k => ?_⟩
  simp only [spec_l01New.l0]
  split
  · rw [if_neg (by omega)]
  · rfl
 | succ d ih =>
  intro i h hd
  by_cases hl : (i : Int) < (l.length : Int)
  · obtain ⟨h', e⟩ := ih (i + 1) (Go.bits .and .i64 (wrap64 ((wrap64 ((wrap64 (h * 149)) + (wrap64 (rd l i)))) + 11)) 1073741823) (by omega)
    refine ⟨h', Ev.step (fun k => ?_) e⟩
    simp only [spec_l01New.l0]
    rw [if_pos hl, if_pos (by omega), if_pos (by omega), wsucc (by omega)]
  · refine ⟨h, ev_now fun k => ?_⟩
    simp only [spec_l01New.l0]
    rw [if_neg hl]
theorem drawNew (l : List Int) (hn : l.length ≤ 140737488355328) : ∃ h', Ev (fun k => spec_l01New.f k l) (l, 0, h') := by
 obtain ⟨h', e⟩ := drawNew_l l hn 4000 0 (wrap64 (710710 + (l.length : Int))) (by omega)
 exact ⟨h', Ev.congr (fun k => rfl) e⟩
theorem dAt0 (l : List Int) : dAt l 0 := by unfold dAt; omega

theorem shl_pow {i : Nat} (h : i ≤ 10) : shl .i64 1 (i : Int) = 2 ^ i ∧ shl .i64 1 (IntKind.u64.wrap (i : Int)) = 2 ^ i ∧ 0 ≤ IntKind.u64.wrap (i : Int) := by
 rcases (show i = 0 ∨ i = 1 ∨ i = 2 ∨ i = 3 ∨ i = 4 ∨ i = 5 ∨ i = 6 ∨ i = 7 ∨ i = 8 ∨ i = 9 ∨ i = 10 by omega) with rfl | rfl | rfl | rfl | rfl | rfl | rfl | rfl | rfl | rfl | rfl <;> decide +kernel

def mdP (f : Int) : Int := rd fP f
def vecP (f : Int) (v : List Int) : Prop := fldOk f ∧ 0 ≤ logB (v.length : Int) ∧ logB (v.length : Int) ≤ rd fT f ∧ elemB (mdP f) v = true
instance vecP_dec (f : Int) (v : List Int) : Decidable (vecP f v) := by unfold vecP; infer_instance
theorem vec_el {f : Int} {v : List Int} (h : vecP f v) : ∀ i, i < v.length → 0 ≤ rd v (i : Int) ∧ rd v (i : Int) < mdP f := fun i hi => (elemB_iff _ _).1 h.2.2.2 _ (rd_mem hi)
theorem vec_log {f : Int} {v : List Int} (h : vecP f v) : ∃ K : Nat, K ≤ 9 ∧ logB (v.length : Int) = K ∧ v.length = 2 ^ K ∧ (K : Int) ≤ rd fT f := by
 obtain ⟨K, h1, h2, h3⟩ := logB_len h.2.1
 exact ⟨K, h1, h2, h3, by have := h.2.2.1; omega⟩

def rt (f : Int) (s : Nat) : Int := rd fG f ^ ((mdP f - 1) / 2 ^ s).toNat % mdP f
theorem fG_range {f : Int} (h : fldOk f) : 3 ≤ rd fG f ∧ rd fG f < mdP f ∧ rd fG f ≤ 17 := fld_cases (Q := fun f => 3 ≤ rd fG f ∧ rd fG f < mdP f ∧ rd fG f ≤ 17) h (by decide) (by decide) (by decide) (by decide) (by decide) (by decide) (by decide) (by decide) (by decide)
theorem mdP_range {f : Int} (h : fldOk f) : 17 ≤ mdP f ∧ mdP f ≤ 1004535809 := fld_cases (Q := fun f => 17 ≤ mdP f ∧ mdP f ≤ 1004535809) h (by decide) (by decide) (by decide) (by decide) (by decide) (by decide) (by decide) (by decide) (by decide)
theorem fT_range {f : Int} (h : fldOk f) : 4 ≤ rd fT f ∧ rd fT f ≤ 26 := fld_cases (Q := fun f => 4 ≤ rd fT f ∧ rd fT f ≤ 26) h (by decide) (by decide) (by decide) (by decide) (by decide) (by decide) (by decide) (by decide) (by decide)
theorem rt_range {f : Int} (h : fldOk f) (s : Nat) : 0 ≤ rt f s ∧ rt f s < mdP f := by
 have hm := mdP_range h
 exact ⟨Int.emod_nonneg _ (by omega), Int.emod_lt_of_pos _ (by omega)⟩
theorem half_lt {p : Int} (hp : 17 ≤ p) (hp2 : p ≤ 1004535809) (s : Nat) : 0 ≤ (p - 1) / 2 ^ s ∧ (p - 1) / 2 ^ s ≤ p - 1 ∧ (1 ≤ s → (p - 1) / 2 ^ s < p - 1) := by
 have h2 : (0 : Int) < 2 ^ s := Int.pow_pos (by omega)
 refine ⟨Int.ediv_nonneg (by omega) (by omega), Int.ediv_le_self _ (by omega), fun h => ?_⟩
 apply Int.ediv_lt_of_lt_mul h2
 have : (2 : Int) ≤ 2 ^ s := by
  obtain ⟨q, rfl⟩ : ∃ q, s = q + 1 := ⟨s - 1, by omega⟩
  have h3 : (0 : Int) < 2 ^ q := Int.pow_pos (by omega)
  rw [Int.pow_succ]; omega
 have h4 : (p - 1) * 2 ≤ (p - 1) * 2 ^ s := Int.mul_le_mul_of_nonneg_left this (by omega)
 omega
theorem rt_pm {f : Int} (h : fldOk f) (s : Nat) : rt f s = (pm (mdP f).toNat 40 (rd fG f).toNat ((mdP f - 1) / 2 ^ s).toNat : Int) := by
 have hm := mdP_range h
 have hg := fG_range h
 have hh := half_lt hm.1 hm.2 s
 unfold rt
 rw [← pm_int _ 40 _ _ (by omega)]
 rw [show (((rd fG f).toNat : Nat) : Int) = rd fG f by omega, show (((mdP f).toNat : Nat) : Int) = mdP f by omega]
theorem rt_zero {f : Int} (h : fldOk f) : rt f 0 = 1 := by
 rw [rt_pm h]
 exact fld_cases (Q := fun f => (pm (mdP f).toNat 40 (rd fG f).toNat ((mdP f - 1) / 2 ^ 0).toNat : Int) = 1) h (by decide +kernel) (by decide +kernel) (by decide +kernel) (by decide +kernel) (by decide +kernel) (by decide +kernel) (by decide +kernel) (by decide +kernel) (by decide +kernel)
theorem rt_one {f : Int} (h : fldOk f) : rt f 1 = mdP f - 1 := by
 rw [rt_pm h]
 exact fld_cases (Q := fun f => (pm (mdP f).toNat 40 (rd fG f).toNat ((mdP f - 1) / 2 ^ 1).toNat : Int) = mdP f - 1) h (by decide +kernel) (by decide +kernel) (by decide +kernel) (by decide +kernel) (by decide +kernel) (by decide +kernel) (by decide +kernel) (by decide +kernel) (by decide +kernel)
theorem two_div {f : Int} (h : fldOk f) : (2 : Int) ^ (rd fT f).toNat ∣ mdP f - 1 :=
 fld_cases (Q := fun f => (2 : Int) ^ (rd fT f).toNat ∣ mdP f - 1) h (by decide +kernel) (by decide +kernel) (by decide +kernel) (by decide +kernel) (by decide +kernel) (by decide +kernel) (by decide +kernel) (by decide +kernel) (by decide +kernel)
theorem half_two {f : Int} (h : fldOk f) (s d : Nat) (hs : s + d ≤ (rd fT f).toNat) : ((mdP f - 1) / 2 ^ s).toNat = 2 ^ d * ((mdP f - 1) / 2 ^ (s + d)).toNat := by
 have hm := mdP_range h
 obtain ⟨c0, hc⟩ := two_div h
 obtain ⟨r, hr⟩ : ∃ r, (rd fT f).toNat = s + d + r := ⟨(rd fT f).toNat - (s + d), by omega⟩
 have h2 : (0 : Int) < 2 ^ s := Int.pow_pos (by omega)
 have h3 : (0 : Int) < 2 ^ d := Int.pow_pos (by omega)
 rw [hr, Int.pow_add, Int.pow_add, Int.mul_assoc, Int.mul_assoc] at hc
 obtain ⟨c, hcc⟩ : ∃ c, c = 2 ^ r * c0 := ⟨_, rfl⟩
 rw [← hcc] at hc
 have hc0 : 0 ≤ c := by
  rcases Int.lt_or_le c 0 with hx | hx
  · have := Int.mul_neg_of_pos_of_neg h2 (Int.mul_neg_of_pos_of_neg h3 hx)
    omega
  · exact hx
 rw [hc, Int.mul_ediv_cancel_left _ (Int.ne_of_gt h2), Int.pow_add, Int.mul_ediv_mul_of_pos _ _ h2, Int.mul_ediv_cancel_left _ (Int.ne_of_gt h3)]
 obtain ⟨n, rfl⟩ : ∃ n : Nat, c = (n : Int) := ⟨c.toNat, by omega⟩
 rw [Int.toNat_natCast, show ((2 : Int) ^ d * (n : Int)) = ((2 ^ d * n : Nat) : Int) by simp, Int.toNat_natCast]
theorem rt_pow {f : Int} (h : fldOk f) (s d : Nat) (hs : s + d ≤ (rd fT f).toNat) (j : Nat) : Md (mdP f) (rt f (s + d) ^ (2 ^ d * j)) (rt f s ^ j) := by
 have e1 : Md (mdP f) (rt f (s + d)) (rd fG f ^ ((mdP f - 1) / 2 ^ (s + d)).toNat) := Md.mod _ _
 have e2 : Md (mdP f) (rt f s) (rd fG f ^ ((mdP f - 1) / 2 ^ s).toNat) := Md.mod _ _
 refine (e1.pow _).trans (Md.trans (Md.of_eq ?_) (e2.pow _).symm)
 rw [half_two h s d hs, ← Int.pow_mul, ← Int.pow_mul]
 congr 1
 rw [Nat.mul_left_comm, Nat.mul_assoc]
theorem roots {f : Int} (h : fldOk f) : Roots (mdP f) (rt f) (rd fT f).toNat where
 one := Md.of_eq (rt_zero h)
 half := fun _ => by rw [rt_one h]; exact ⟨1, by omega⟩
 sq := fun s hs => by
  have := rt_pow h s 1 hs 1
  simpa [Int.pow_succ] using this

def stP (f : Int) (lv : Nat) (v : List Int) (x : Nat) : Int := stg (mdP f) (rt f (lv + 1)) lv (fun i => rd v (i : Int)) x
theorem stP_lo (f : Int) (lv : Nat) (v : List Int) (q j : Nat) (hj : j < 2 ^ lv) : stP f lv v (2 ^ lv * (2 * q) + j) = (rd v ((2 ^ lv * (2 * q) + j : Nat) : Int) + rd v ((2 ^ lv * (2 * q) + j + 2 ^ lv : Nat) : Int) * rt f (lv + 1) ^ j) % mdP f := by
 have e1 : (2 ^ lv * (2 * q) + j) % 2 ^ lv = j := by rw [Nat.mul_add_mod, Nat.mod_eq_of_lt hj]
 have e2 : (2 ^ lv * (2 * q) + j) / 2 ^ lv = 2 * q := by rw [Nat.mul_add_div (Nat.pow_pos (by omega)), Nat.div_eq_of_lt hj, Nat.add_zero]
 unfold stP stg
 rw [e1, e2, if_pos (by omega)]
theorem stP_hi (f : Int) (lv : Nat) (v : List Int) (q j : Nat) (hj : j < 2 ^ lv) : stP f lv v (2 ^ lv * (2 * q) + j + 2 ^ lv) = (rd v ((2 ^ lv * (2 * q) + j : Nat) : Int) - rd v ((2 ^ lv * (2 * q) + j + 2 ^ lv : Nat) : Int) * rt f (lv + 1) ^ j) % mdP f := by
 have e : 2 ^ lv * (2 * q) + j + 2 ^ lv = 2 ^ lv * (2 * q + 1) + j := by rw [Nat.mul_add]; omega
 have e1 : (2 ^ lv * (2 * q) + j + 2 ^ lv) % 2 ^ lv = j := by rw [e, Nat.mul_add_mod, Nat.mod_eq_of_lt hj]
 have e2 : (2 ^ lv * (2 * q) + j + 2 ^ lv) / 2 ^ lv = 2 * q + 1 := by rw [e, Nat.mul_add_div (Nat.pow_pos (by omega)), Nat.div_eq_of_lt hj, Nat.add_zero]
 unfold stP stg
 rw [e1, e2, if_neg (by omega), Nat.add_sub_cancel]
theorem two_le {f : Int} (h : fldOk f) {K : Nat} (hK : (K : Int) ≤ rd fT f) : (2 : Int) ^ K ≤ mdP f - 1 := by
 have hm := mdP_range h
 have hT := fT_range h
 have h1 := Int.le_of_dvd (by omega) (two_div h)
 have h2 : (2 ^ K : Nat) ≤ 2 ^ (rd fT f).toNat := Nat.pow_le_pow_right (by omega) (by omega)
 have h3 : ((2 ^ K : Nat) : Int) ≤ ((2 ^ (rd fT f).toNat : Nat) : Int) := by omega
 simp at h3
 omega
theorem rt_ne {f : Int} (h : fldOk f) {s : Nat} (hs : (s : Int) ≤ rd fT f) : rt f s ≠ 0 := by
 intro e
 have hm := mdP_range h
 have h1 := (roots h).full_pow s (by omega)
 rw [e, Int.zero_pow (Nat.pos_iff_ne_zero.1 (Nat.pow_pos (by omega)))] at h1
 have h2 := h1.emod
 rw [Int.emod_eq_of_lt (by omega) (by omega), Int.emod_eq_of_lt (by omega) (by omega)] at h2
 omega

def stepP (K lv fr en : Int) : Prop := 0 ≤ lv ∧ lv < K ∧ 0 ≤ fr ∧ fr < en ∧ en ≤ halfK K
instance stepP_dec (K lv fr en : Int) : Decidable (stepP K lv fr en) := by unfold stepP; infer_instance

theorem sStep {K : Nat} (hK : K ≤ 9) (lv fr en : Int) : spec_l09Run.f (K : Int) lv fr en = some (decide (stepP (K : Int) lv fr en)) := by
 have hs := (shl_pow (i := K) (by omega)).2.2
 simp only [spec_l09Run.f, in_eq, Option.bind_some, decide_eq_true_eq]
 rw [w64 (x := (K : Int) - 1) (by omega) (by omega)]
 by_cases h1 : 0 ≤ lv ∧ lv ≤ (K : Int) - 1
 · have hh := shl_half (k := (K : Int)) (by omega) (by omega)
   rw [if_pos h1]
   by_cases h2 : 0 ≤ fr
   · rw [if_pos h2]
     by_cases h3 : fr < en
     · rw [if_pos h3, if_pos hs, hh.2.1]
       exact congrArg some (decide_eq_decide.2 ⟨fun x => ⟨h1.1, by omega, h2, h3, x⟩, fun x => x.2.2.2.2⟩)
     · rw [if_neg h3, decide_eq_false (fun x : stepP _ _ _ _ => h3 x.2.2.2.1)]
   · rw [if_neg h2, decide_eq_false (fun x : stepP _ _ _ _ => h2 x.2.2.1)]
 · rw [if_neg h1, decide_eq_false (fun x : stepP _ _ _ _ => h1 ⟨x.1, by have := x.2.1; omega⟩)]

theorem iStep {K : Nat} (hK : K ≤ 9) (lv fr en : Int) : impl_isStep.f lv fr en (K : Int) = some (decide (stepP (K : Int) lv fr en)) := by
 simp only [impl_isStep.f]
 by_cases h0 : lv ≥ 0
 · rw [if_pos h0]
   by_cases h1 : lv < (K : Int)
   · have hh := shl_half (k := (K : Int)) (by omega) (by omega)
     rw [if_pos h1]
     by_cases h2 : fr ≥ 0
     · rw [if_pos h2]
       by_cases h3 : fr < en
       · rw [if_pos h3, if_pos (by rw [w64 (by omega) (by omega)]; omega), hh.1]
         exact congrArg some (decide_eq_decide.2 ⟨fun x => ⟨h0, h1, h2, h3, x⟩, fun x => x.2.2.2.2⟩)
       · rw [if_neg h3, decide_eq_false (fun x : stepP _ _ _ _ => h3 x.2.2.2.1)]
     · rw [if_neg h2, decide_eq_false (fun x : stepP _ _ _ _ => h2 x.2.2.1)]
   · rw [if_neg h1, decide_eq_false (fun x : stepP _ _ _ _ => h1 x.2.1)]
 · rw [if_neg h0, decide_eq_false (fun x : stepP _ _ _ _ => h0 x.1)]

def posB (lv b : Nat) : Nat := 2 ^ lv * (2 * (b / 2 ^ lv)) + b % 2 ^ lv
def runL (f : Int) (lv : Nat) (v : List Int) : Nat → Nat → List Int → List Int
 | 0, _, out => out
 | d + 1, b, out => runL f lv v d (b + 1) ((out.set (posB lv b) (stP f lv v (posB lv b))).set (posB lv b + 2 ^ lv) (stP f lv v (posB lv b + 2 ^ lv)))
theorem runL_len (f : Int) (lv : Nat) (v : List Int) : ∀ d b out, (runL f lv v d b out).length = out.length := by
 intro d
 induction d with
 | zero => intro b out; rfl
 | succ d ih => intro b out; rw [runL, ih]; simp
def runP (f : Int) (v : List Int) (lv fr en : Int) : List Int × Bool :=
 if vecP f v ∧ stepP (logB (v.length : Int)) lv fr en then (runL f lv.toNat v (en - fr).toNat fr.toNat v, true) else ([], false)
theorem runP_len (f : Int) (v : List Int) (lv fr en : Int) : (runP f v lv fr en).1.length ≤ v.length := by
 unfold runP
 split
 · rw [runL_len]; omega
 · simp
theorem pos_facts (lv m b H n : Nat) (hH : H = 2 ^ lv) (hn : n = 2 ^ lv * (2 * 2 ^ m)) (hb : b < H * 2 ^ m) : ∃ q j P : Nat, b / H = q ∧ b % H = j ∧ j < H ∧ P = posB lv b ∧ P = 2 ^ lv * (2 * q) + j ∧ q * 2 * H + j = P ∧ P + H < n ∧ q * 2 * H ≤ P := by
 subst hH
 have h0 : 0 < 2 ^ lv := Nat.pow_pos (by omega)
 have hq : b / 2 ^ lv < 2 ^ m := Nat.div_lt_of_lt_mul hb
 have hj : b % 2 ^ lv < 2 ^ lv := Nat.mod_lt _ h0
 have e : b / 2 ^ lv * 2 * 2 ^ lv = 2 ^ lv * (2 * (b / 2 ^ lv)) := by rw [Nat.mul_comm (2 ^ lv), Nat.mul_comm 2]
 refine ⟨b / 2 ^ lv, b % 2 ^ lv, posB lv b, rfl, rfl, hj, rfl, rfl, by rw [e]; rfl, ?_, by rw [e]; exact Nat.le_add_right _ _⟩
 unfold posB
 have h2 : 2 ^ lv * (2 * (b / 2 ^ lv + 1)) ≤ n := by rw [hn]; exact Nat.mul_le_mul (Nat.le_refl _) (by omega)
 rw [Nat.mul_add, Nat.mul_add] at h2
 generalize 2 ^ lv * (2 * (b / 2 ^ lv)) = X at h2 ⊢
 generalize b % 2 ^ lv = Y at hj ⊢
 generalize 2 ^ lv = Z at h2 hj ⊢
 omega
theorem halfK_pow (lv m : Nat) : halfK ((lv + 1 + m : Nat) : Int) = ((2 ^ lv * 2 ^ m : Nat) : Int) := by
 unfold halfK
 rw [show (((lv + 1 + m : Nat) : Int).toNat - 1) = lv + m by omega, ← Nat.pow_add]
 simp

/-! the places that the steps of a plan turn, numbered level by level -/
def rngP (lv : Nat) : Nat → Nat → List Nat
 | _, 0 => []
 | b, d + 1 => (lv * 512 + b) :: rngP lv (b + 1) d
def ptsOf (s : S93) : List Nat := rngP s.f0.toNat s.f1.toNat (s.f2 - s.f1).toNat
def pts : List S93 → List Nat
 | [] => []
 | s :: r => ptsOf s ++ pts r
def okAt (K : Int) (l : List S93) (i : Nat) : Prop := stepP K (rd_T93 l (i : Int)).f0 (rd_T93 l (i : Int)).f1 (rd_T93 l (i : Int)).f2 ∧ (0 < i → (rd_T93 l ((i - 1 : Nat) : Int)).f0 ≤ (rd_T93 l (i : Int)).f0)
instance okAt_dec (K : Int) (l : List S93) (i : Nat) : Decidable (okAt K l i) := by unfold okAt; infer_instance
def okS (K : Int) (l : List S93) : Bool := allF l.length 0 (fun i => decide (okAt K l i))
def onceB (K : Nat) (l : List S93) : Bool := allF K 0 (fun s => allF (2 ^ (K - 1)) 0 (fun b => decide ((pts l).count (s * 512 + b) = 1)))
theorem rngP_mem (lv : Nat) : ∀ d b x, x ∈ rngP lv b d ↔ ∃ y, b ≤ y ∧ y < b + d ∧ x = lv * 512 + y := by
 intro d
 induction d with
 | zero => intro b x; simp [rngP]; intro y h1 h2; omega
 | succ d ih =>
  intro b x
  rw [rngP, List.mem_cons, ih]
  constructor
  · rintro (h | ⟨y, h1, h2, h3⟩)
    · exact ⟨b, by omega, by omega, h⟩
    · exact ⟨y, by omega, by omega, h3⟩
  · rintro ⟨y, h1, h2, h3⟩
    by_cases hy : y = b
    · left; rw [h3, hy]
    · right; exact ⟨y, by omega, by omega, h3⟩
theorem rngP_len (lv : Nat) : ∀ d b, (rngP lv b d).length = d := by
 intro d
 induction d with
 | zero => intro b; rfl
 | succ d ih => intro b; simp [rngP, ih]
theorem step_nat {K : Nat} (hK : K ≤ 9) {s : S93} (h : stepP (K : Int) s.f0 s.f1 s.f2) : ∃ lv fr en : Nat, s.f0 = lv ∧ s.f1 = fr ∧ s.f2 = en ∧ lv < K ∧ fr < en ∧ en ≤ 2 ^ (K - 1) ∧ 2 ^ (K - 1) ≤ 256 := by
 obtain ⟨h1, h2, h3, h4, h5⟩ := h
 obtain ⟨lv, e1⟩ := Int.eq_ofNat_of_zero_le h1
 obtain ⟨fr, e2⟩ := Int.eq_ofNat_of_zero_le h3
 obtain ⟨en, e3⟩ := Int.eq_ofNat_of_zero_le (show 0 ≤ s.f2 by omega)
 have h6 := (shl_half (k := (K : Int)) (by omega) (by omega)).2.2.2
 unfold halfK at h5 h6
 rw [Int.toNat_natCast, show (2 : Int) ^ (K - 1) = ((2 ^ (K - 1) : Nat) : Int) by simp] at h5 h6
 exact ⟨lv, fr, en, e1, e2, e3, by omega, by omega, by omega, by omega⟩
theorem okS_at {K : Int} {l : List S93} (h : okS K l = true) {i : Nat} (hi : i < l.length) : okAt K l i := of_decide_eq_true ((allF_iff _ _ _).1 h i (by omega) (by omega))
theorem okS_mem {K : Int} {l : List S93} (h : okS K l = true) {s : S93} (hs : s ∈ l) : stepP K s.f0 s.f1 s.f2 := by
 obtain ⟨i, hi, rfl⟩ := List.mem_iff_getElem.1 hs
 have := (okS_at h hi).1
 rwa [rdStep hi] at this
theorem pts_mem {K : Nat} (hK : K ≤ 9) : ∀ (l : List S93), (∀ s ∈ l, stepP (K : Int) s.f0 s.f1 s.f2) → ∀ x ∈ pts l, ∃ s b, s < K ∧ b < 2 ^ (K - 1) ∧ x = s * 512 + b := by
 intro l
 induction l with
 | nil => intro h x hx; exact absurd hx (by simp [pts])
 | cons s r ih =>
  intro h x hx
  rw [pts, List.mem_append] at hx
  rcases hx with hx | hx
  · obtain ⟨lv, fr, en, e1, e2, e3, h1, h2, h3, h4⟩ := step_nat hK (h s (List.mem_cons_self ..))
    unfold ptsOf at hx
    rw [e1, e2, e3, rngP_mem] at hx
    obtain ⟨y, y1, y2, y3⟩ := hx
    exact ⟨lv, y, h1, by omega, by simpa using y3⟩
  · exact ih (fun s hs => h s (List.mem_cons_of_mem _ hs)) x hx
theorem sm_zero_all {n : Nat} {g : Nat → Int} (h : ∀ i, i < n → 0 ≤ g i) (h0 : sm n g = 0) : ∀ i, i < n → g i = 0 := by
 induction n with
 | zero => intro i hi; omega
 | succ n ih =>
  have h1 : 0 ≤ sm n g := by
   clear h0 ih
   induction n with
   | zero => exact Int.le_refl _
   | succ m ihm => rw [sm]; have := ihm (fun i hi => h i (by omega)); have := h m (by omega); omega
  have h2 := h n (by omega)
  rw [sm] at h0
  intro i hi
  by_cases hin : i = n
  · subst hin; omega
  · exact ih (fun i hi => h i (by omega)) (by omega) i (by omega)
theorem sm_const (n : Nat) (c : Int) : sm n (fun _ => c) = n * c := by
 induction n with
 | zero => simp [sm]
 | succ n ih => rw [sm, ih]; grind
theorem count_region (K N : Nat) (hN : N ≤ 512) : ∀ (P : List Nat), (∀ x ∈ P, ∃ s b, s < K ∧ b < N ∧ x = s * 512 + b) → sm K (fun s => sm N (fun b => ((P.count (s * 512 + b) : Nat) : Int))) = P.length := by
 intro P
 induction P with
 | nil =>
  intro h
  rw [sm_congr (g := fun _ => 0) (fun s _ => by rw [sm_congr (g := fun _ => 0) (fun b _ => by simp)]; exact sm_zero N)]
  exact sm_zero K
 | cons x r ih =>
  intro h
  obtain ⟨s0, b0, h1, h2, h3⟩ := h x (List.mem_cons_self ..)
  have e : ∀ s, s < K → sm N (fun b => (((x :: r).count (s * 512 + b) : Nat) : Int)) = sm N (fun b => ((r.count (s * 512 + b) : Nat) : Int)) + (if s = s0 then 1 else 0) := by
   intro s hs
   have e1 : ∀ b, b < N → (((x :: r).count (s * 512 + b) : Nat) : Int) = ((r.count (s * 512 + b) : Nat) : Int) + (if b = b0 then (if s = s0 then 1 else 0) else 0) := by
    intro b hb
    rw [List.count_cons, Int.natCast_add]
    congr 1
    by_cases hx : x = s * 512 + b
    · rw [if_pos (by simpa using hx), if_pos (by omega), if_pos (by omega)]; rfl
    · rw [if_neg (by simpa using hx)]
      by_cases hb0 : b = b0
      · rw [if_pos hb0, if_neg (by omega)]; rfl
      · rw [if_neg hb0]; rfl
   rw [sm_congr e1, sm_add, sm_one N b0 h2 (fun _ => if s = s0 then 1 else 0)]
  rw [sm_congr e, sm_add, ih (fun y hy => h y (List.mem_cons_of_mem _ hy)), sm_one K s0 h1 (fun _ => 1)]
  simp
theorem once_iff {K : Nat} (hK : K ≤ 9) (l : List S93) (hok : okS (K : Int) l = true) : onceB K l = true ↔ (pts l).Nodup ∧ (pts l).length = K * 2 ^ (K - 1) := by
 have hN : 2 ^ (K - 1) ≤ 512 := (pow2_9 (by omega)).1
 have hmem := pts_mem hK l (fun s hs => okS_mem hok hs)
 have hc := count_region K (2 ^ (K - 1)) hN (pts l) hmem
 unfold onceB
 simp only [allF_iff, decide_eq_true_eq]
 generalize 2 ^ (K - 1) = N at *
 constructor
 · intro h
   have h1 : ∀ s, s < K → ∀ b, b < N → (pts l).count (s * 512 + b) = 1 := fun s hs b hb => h s (by omega) (by omega) b (by omega) (by omega)
   constructor
   · rw [List.nodup_iff_count]
     intro x
     by_cases hx : x ∈ pts l
     · obtain ⟨s, b, h2, h3, rfl⟩ := hmem x hx
       rw [h1 s h2 b h3]; exact Nat.le_refl _
     · rw [List.count_eq_zero_of_not_mem hx]; omega
   · rw [sm_congr (g := fun _ => (N : Int)) (fun s hs => by rw [sm_congr (g := fun _ => 1) (fun b hb => by rw [h1 s hs b hb]; rfl), sm_const]; simp), sm_const] at hc
     have : ((K * N : Nat) : Int) = ((pts l).length : Int) := by rw [← hc]; simp
     omega
 · rintro ⟨hnd, hlen⟩ s _ hs b _ hb
   rw [List.nodup_iff_count] at hnd
   have h2 : sm K (fun s => sm N (fun b => 1 - (((pts l).count (s * 512 + b) : Nat) : Int))) = 0 := by
    have e : sm K (fun s => sm N (fun b => 1 - (((pts l).count (s * 512 + b) : Nat) : Int))) = sm K (fun s => sm N (fun _ => 1)) + (-1) * sm K (fun s => sm N (fun b => (((pts l).count (s * 512 + b) : Nat) : Int))) := by
     rw [← sm_mul, ← sm_add]
     refine sm_congr fun s _ => ?_
     rw [← sm_mul, ← sm_add]
     refine sm_congr fun b _ => ?_
     omega
    rw [e, hc, hlen, sm_congr (g := fun _ => (N : Int)) (fun s hs => by rw [sm_const]; simp), sm_const]
    simp
    omega
   have hnn : ∀ s b, 0 ≤ 1 - (((pts l).count (s * 512 + b) : Nat) : Int) := fun s b => by have := hnd (s * 512 + b); omega
   have h3 := sm_zero_all (fun s _ => by
    have : ∀ n, 0 ≤ sm n (fun b => 1 - (((pts l).count (s * 512 + b) : Nat) : Int)) := by
     intro n
     induction n with
     | zero => exact Int.le_refl _
     | succ n ih => rw [sm]; have := hnn s n; omega
    exact this N) h2 s (by omega)
   have h4 := sm_zero_all (fun b _ => hnn s b) h3 b (by omega)
   omega
def planV (f K : Int) (l : List S93) : Prop := logP f K ∧ l.length ≤ 600 ∧ okS K l = true ∧ onceB K.toNat l = true
instance planV_dec (f K : Int) (l : List S93) : Decidable (planV f K l) := by unfold planV; infer_instance

theorem planV_nat2 {f K : Int} {l : List S93} (h : planV f K l) : ∃ n : Nat, K = n ∧ n ≤ 9 := by
 obtain ⟨⟨_, h0, h9, _⟩, _⟩ := h
 exact ⟨K.toNat, by omega, by omega⟩

theorem klog {K : Nat} (hK : K ≤ 9) : wrap64 (Int.tdiv (shl .i64 (K : Int) (K : Int)) 2) = ((K * 2 ^ (K - 1) : Nat) : Int) := by
 rcases (show K = 0 ∨ K = 1 ∨ K = 2 ∨ K = 3 ∨ K = 4 ∨ K = 5 ∨ K = 6 ∨ K = 7 ∨ K = 8 ∨ K = 9 by omega) with rfl | rfl | rfl | rfl | rfl | rfl | rfl | rfl | rfl | rfl <;> decide +kernel

def dnP (P : List Nat) (x : Nat) : Bool := decide (x ∈ P)
theorem dnP_set (P : List Nat) (x : Nat) : setB (dnP P) x = dnP (P ++ [x]) := by
 funext j
 unfold setB dnP
 by_cases h : j = x
 · rw [if_pos h, decide_eq_true (by rw [h]; simp)]
 · rw [if_neg h]
   exact decide_eq_decide.2 ⟨fun hh => List.mem_append_left _ hh, fun hh => (List.mem_append.1 hh).elim id (fun h2 => absurd (by simpa using h2) h)⟩
theorem iIsPlan_in {K : Nat} (hK : K ≤ 9) (f : Int) (l : List S93) (hl : l.length ≤ 600) (i : Nat) (hi : i < l.length) (s : S93) (lv en : Nat) (e1 : s.f0 = lv) (e3 : s.f2 = en) (hlv : lv < K) (hen : en ≤ 256) (A R : List Nat) (B : Nat) (hB : B ≤ 1000000) (r : Bool) (hfal : ¬ A.Nodup → r = false)
 (hr : ∀ P : List Nat, P.Nodup → A = P ++ R → P.length ≤ B → Ev (fun k => impl_isPlan.l0 k (P.length : Int) l (l.length : Int) ((i + 1 : Nat) : Int) f (K : Int) l (dnP P)) r) :
 ∀ (d b : Nat) (P : List Nat), b + d = en → P.Nodup → A = P ++ (rngP lv b d ++ R) → P.length + d ≤ B →
 Ev (fun k => impl_isPlan.l1 k (P.length : Int) (b : Int) l (l.length : Int) (i : Int) f (K : Int) l (dnP P) s.f0 s.f1 s.f2) r := by
 intro d
 induction d with
 | zero =>
  intro b P hb hP hA hlen
  have key := hr P hP (by rw [hA]; rfl) (by omega)
  refine Ev.step (fun k => ?_) key
  simp only [impl_isPlan.l1, e3]
  rw [if_neg (by omega), wsucc (by omega)]
 | succ d ih =>
  intro b P hb hP hA hlen
  have c1 : (b : Int) < (en : Int) := by omega
  have c2 : (0 : Int) ≤ (lv : Int) := by omega
  have c3 : (lv : Int) < 9 := by omega
  have c4 : (0 : Int) ≤ (b : Int) := by omega
  have c5 : (b : Int) < 512 := by omega
  rw [rngP, List.cons_append] at hA
  by_cases hx : lv * 512 + b ∈ P
  · rw [hfal (fun hnd => by
     rw [hA, List.nodup_append] at hnd
     exact hnd.2.2 _ hx _ (List.mem_cons_self ..) rfl)]
    refine ev_now fun k => ?_
    simp only [impl_isPlan.l1, e1, e3, Int.toNat_natCast, c1, c2, c3, c4, c5, if_true, dnP, decide_eq_true hx]
  · have hP2 : (P ++ [lv * 512 + b]).Nodup := by
     rw [List.nodup_append]
     exact ⟨hP, by simp, fun a ha c hc => by rw [List.mem_singleton] at hc; rw [hc]; exact fun h => hx (h ▸ ha)⟩
    have key := ih (b + 1) (P ++ [lv * 512 + b]) (by omega) hP2 (by rw [hA, List.append_assoc]; rfl) (by simp; omega)
    rw [← dnP_set, List.length_append, List.length_singleton] at key
    have hd : dnP P (lv * 512 + b) = false := decide_eq_false hx
    refine Ev.step (fun k => ?_) key
    have w1 : wrap64 ((P.length : Int) + 1) = ((P.length + 1 : Nat) : Int) := wsucc (by omega)
    have w2 : wrap64 ((b : Int) + 1) = ((b + 1 : Nat) : Int) := wsucc (by omega)
    simp only [impl_isPlan.l1, e1, e3, Int.toNat_natCast, c1, c2, c3, c4, c5, if_true, hd, Bool.false_eq_true, if_false, w1, w2]
theorem iIsPlan_l {K : Nat} (hK : K ≤ 9) (f : Int) (l : List S93) (hl : l.length ≤ 600) :
 ∀ (d i : Nat) (P : List Nat), l.length - i = d → i ≤ l.length → P.Nodup → (∀ j, j < i → okAt (K : Int) l j) → pts l = P ++ pts (l.drop i) → P.length ≤ i * 256 →
 Ev (fun k => impl_isPlan.l0 k (P.length : Int) l (l.length : Int) (i : Int) f (K : Int) l (dnP P)) (okS (K : Int) l && decide ((pts l).Nodup) && decide ((pts l).length = K * 2 ^ (K - 1))) := by
 intro d
 induction d with
 | zero =>
  intro i P hd hi hP hok hA hlen
  have hil : i = l.length := by omega
  have hokS : okS (K : Int) l = true := (allF_iff _ _ _).2 (fun j _ hj => decide_eq_true (hok j (by omega)))
  rw [List.drop_of_length_le (by omega), pts, List.append_nil] at hA
  refine ev_now fun k => ?_
  simp only [impl_isPlan.l0, klog hK]
  rw [if_neg (by omega), if_pos (by omega), hokS, hA, decide_eq_true hP]
  refine congrArg some ?_
  simp only [Bool.true_and]
  by_cases h : P.length = K * 2 ^ (K - 1)
  · rw [decide_eq_true h, h]; simp
  · rw [decide_eq_false h]
    exact beq_eq_false_iff_ne.2 (fun hh => h (by omega))
 | succ d ih =>
  intro i P hd hi hP hok hA hlen
  have hil : i < l.length := by omega
  by_cases hs : okAt (K : Int) l i
  · obtain ⟨lv, fr, en, e1, e2, e3, h1, h2, h3, h4⟩ := step_nat hK (s := rd_T93 l (i : Int)) hs.1
    have hA2 : pts l = P ++ (rngP lv fr (en - fr) ++ pts (l.drop (i + 1))) := by
     rw [hA, List.drop_eq_getElem_cons hil, pts, ← rdStep hil]
     unfold ptsOf
     rw [e1, e2, e3]
     congr 2
     congr 1
     omega
    have key := iIsPlan_in hK f l hl i hil (rd_T93 l (i : Int)) lv en e1 e3 h1 (by omega) (pts l) (pts (l.drop (i + 1))) ((i + 1) * 256) (by omega) (okS (K : Int) l && decide ((pts l).Nodup) && decide ((pts l).length = K * 2 ^ (K - 1)))
     (fun hn => by rw [decide_eq_false hn]; simp)
     (fun Q hQ hQA hQl => ih (i + 1) Q (by omega) (by omega) hQ (fun j hj => by
      by_cases hji : j = i
      · rw [hji]; exact hs
      · exact hok j (by omega)) hQA hQl)
     (en - fr) fr P (by omega) hP hA2 (by omega)
    rw [show ((fr : Nat) : Int) = (rd_T93 l (i : Int)).f1 from e2.symm] at key
    refine Ev.step (fun k => ?_) (Ev.step (g := fun k => impl_isPlan.j2 k (P.length : Int) l (l.length : Int) (i : Int) false f (K : Int) l (dnP P) (rd_T93 l (i : Int)).f0 (rd_T93 l (i : Int)).f1 (rd_T93 l (i : Int)).f2) (fun k => by simp only [impl_isPlan.j2, Bool.false_eq_true, if_false]) key)
    simp only [impl_isPlan.l0, iStep hK, decide_eq_true hs.1, Option.bind_some, if_true]
    rw [if_pos (by omega), if_pos (by omega), if_pos (by omega)]
    by_cases hi0 : 0 < i
    · have hle := hs.2 hi0
      have w1 : wrap64 ((i : Int) - 1) = ((i - 1 : Nat) : Int) := w64n (by omega) (by omega)
      rw [w1, if_pos (by clear w1; omega), if_pos (by clear w1; omega), if_pos (by clear w1; omega), decide_eq_false (by clear w1; omega)]
    · rw [if_neg (by omega)]
  · have hokS : okS (K : Int) l = false := by
     rw [← Bool.not_eq_true]
     exact fun h => hs (okS_at h hil)
    rw [hokS, Bool.false_and, Bool.false_and]
    by_cases h1 : stepP (K : Int) (rd_T93 l (i : Int)).f0 (rd_T93 l (i : Int)).f1 (rd_T93 l (i : Int)).f2
    · by_cases hi0 : 0 < i
      · have hle : ¬ ((rd_T93 l ((i - 1 : Nat) : Int)).f0 ≤ (rd_T93 l (i : Int)).f0) := fun h => hs ⟨h1, fun _ => h⟩
        refine Ev.step (f := fun k => impl_isPlan.j2 k (P.length : Int) l (l.length : Int) (i : Int) true f (K : Int) l (dnP P) (rd_T93 l (i : Int)).f0 (rd_T93 l (i : Int)).f1 (rd_T93 l (i : Int)).f2) (fun k => ?_) (ev_now fun k => by simp only [impl_isPlan.j2, if_true])
        simp only [impl_isPlan.l0, iStep hK, decide_eq_true h1, Option.bind_some, if_true]
        have w1 : wrap64 ((i : Int) - 1) = ((i - 1 : Nat) : Int) := w64n (by omega) (by omega)
        rw [if_pos (by omega), if_pos (by omega), if_pos (by omega), w1, if_pos (by clear w1; omega), if_pos (by clear w1; omega), if_pos (by clear w1; omega), decide_eq_true (by clear w1; omega)]
      · exact absurd ⟨h1, fun h => absurd h hi0⟩ hs
    · refine Ev.step (f := fun k => impl_isPlan.j2 k (P.length : Int) l (l.length : Int) (i : Int) true f (K : Int) l (dnP P) (rd_T93 l (i : Int)).f0 (rd_T93 l (i : Int)).f1 (rd_T93 l (i : Int)).f2) (fun k => ?_) (ev_now fun k => by simp only [impl_isPlan.j2, if_true])
      simp only [impl_isPlan.l0, iStep hK, decide_eq_false h1, Option.bind_some, Bool.false_eq_true, if_false]
      rw [if_pos (by omega), if_pos (by omega), if_pos (by omega)]
theorem iIsPlan_ev (f K : Int) (l : List S93) (hl : l.length ≤ 1048576) : Ev (fun k => impl_isPlan.f k f K l) (decide (planV f K l)) := by
 by_cases h : logP f K ∧ l.length ≤ 600
 · obtain ⟨⟨hf, hK0, hK9, hKT⟩, hl6⟩ := h
   obtain ⟨n, rfl⟩ := Int.eq_ofNat_of_zero_le hK0
   have key := iIsPlan_l (K := n) (by omega) f l hl6 l.length 0 [] (by omega) (by omega) (by simp) (by intro j hj; omega) rfl (by simp)
   have e : decide (planV f (n : Int) l) = (okS (n : Int) l && decide ((pts l).Nodup) && decide ((pts l).length = n * 2 ^ (n - 1))) := by
    by_cases hok : okS (n : Int) l = true
    · rw [hok, Bool.true_and, ← Bool.decide_and]
      refine decide_eq_decide.2 ?_
      rw [← once_iff (by omega) l hok]
      exact ⟨fun x => by simpa using x.2.2.2, fun x => ⟨⟨hf, hK0, hK9, hKT⟩, hl6, hok, by simpa using x⟩⟩
    · rw [Bool.not_eq_true] at hok
      rw [hok, decide_eq_false (fun x : planV _ _ _ => by have := x.2.2.1; rw [hok] at this; exact Bool.noConfusion this)]
      rfl
   rw [e]
   refine Ev.congr (f := fun k => impl_isPlan.j0 k false f (n : Int) l) (fun k => ?_) (Ev.step (fun k => ?_) key)
   · simp only [impl_isPlan.f, iFld, if_pos hf, Option.bind_some, if_true, mn_eq]
     rw [if_neg (by omega), if_neg (by split <;> omega), decide_eq_false (by omega)]
   · simp only [impl_isPlan.j0, Bool.false_eq_true, if_false]
     rfl
 · rw [decide_eq_false (fun x : planV _ _ _ => h ⟨x.1, x.2.1⟩)]
   refine Ev.congr (f := fun k => impl_isPlan.j0 k true f K l) (fun k => ?_) (ev_now fun k => by simp only [impl_isPlan.j0, if_true])
   by_cases hf : fldOk f
   · have hT := fT_range hf
     simp only [impl_isPlan.f, iFld, if_pos hf, Option.bind_some, if_true, mn_eq]
     by_cases h1 : K < 0
     · rw [if_pos h1]
     · rw [if_neg h1]
       by_cases h2 : K > (if 9 < rd fT f then 9 else rd fT f)
       · rw [if_pos h2]
       · rw [if_neg h2, decide_eq_true]
         have h3 : logP f K := by
          refine ⟨hf, by omega, ?_, ?_⟩ <;> (split at h2 <;> omega)
         have : ¬ (l.length ≤ 600) := fun hh => h ⟨h3, hh⟩
         omega
   · simp only [impl_isPlan.f, iFld, if_neg hf, Option.bind_some, Bool.false_eq_true, if_false]

def cntT (N s : Nat) (P : List Nat) : List Int := tab N (fun y => ((P.count (s * 512 + y) : Nat) : Int))
theorem cntT_one (N s b : Nat) (P : List Nat) : (cntT N s P).set b (((P.count (s * 512 + b) : Nat) : Int) + 1) = cntT N s (P ++ [s * 512 + b]) := by
 unfold cntT
 rw [tab_set]
 refine tab_congr fun y hy => ?_
 rw [List.count_append]
 by_cases h : y = b
 · rw [if_pos h, h, List.count_singleton_self]; rfl
 · rw [if_neg h, List.count_eq_zero_of_not_mem (l := [s * 512 + b]) (by simp; omega)]; rfl
theorem cntT_far (N s : Nat) (hN : N ≤ 512) (lv b d : Nat) (hbd : b + d ≤ 512) (h : lv ≠ s) (P : List Nat) : cntT N s (P ++ rngP lv b d) = cntT N s P := by
 unfold cntT
 refine tab_congr fun y hy => ?_
 rw [List.count_append, List.count_eq_zero_of_not_mem (l := rngP lv b d) (fun hm => by
  obtain ⟨z, h1, h2, h3⟩ := (rngP_mem lv d b _).1 hm
  omega)]
 rfl
theorem sIsPlan_l4 {K : Nat} (f : Int) (l : List S93) (hl : l.length ≤ 600) (N s i en : Nat) (hN : N ≤ 512) (hi : i < l.length) (e3 : (rd_T93 l (i : Int)).f2 = en) (hen : en ≤ N) (r : Bool) : ∀ (d b : Nat) (P : List Nat), b + d = en → P.length + d ≤ 1000000 →
 Ev (fun k => spec_PlanOk.l3 k (s : Int) (cntT N s (P ++ rngP s b d)) ((i + 1 : Nat) : Int) f (K : Int) l) r →
 Ev (fun k => spec_PlanOk.l4 k (s : Int) (cntT N s P) (i : Int) (b : Int) f (K : Int) l) r := by
 intro d
 induction d with
 | zero =>
  intro b P hb hP hr
  rw [rngP, List.append_nil] at hr
  refine Ev.step (fun k => ?_) hr
  simp only [spec_PlanOk.l4, e3]
  rw [if_pos (by omega), if_pos (by omega), if_neg (by omega), wsucc (by omega)]
 | succ d ih =>
  intro b P hb hP hr
  have hc : P.count (s * 512 + b) ≤ P.length := List.count_le_length
  have key := ih (b + 1) (P ++ [s * 512 + b]) (by omega) (by simp; omega) (by rw [List.append_assoc]; exact hr)
  rw [← cntT_one] at key
  refine Ev.step (fun k => ?_) key
  have hrd : rd (cntT N s P) (b : Int) = ((P.count (s * 512 + b) : Nat) : Int) := tab_rd (by omega)
  have hlen : (cntT N s P).length = N := tab_len _ _
  have w1 : wrap64 (((P.count (s * 512 + b) : Nat) : Int) + 1) = ((P.count (s * 512 + b) : Nat) : Int) + 1 := w64 (by omega) (by omega)
  have w2 : wrap64 ((b : Int) + 1) = ((b + 1 : Nat) : Int) := wsucc (by omega)
  simp only [spec_PlanOk.l4, e3, hrd, hlen, w1, w2, Int.toNat_natCast]
  rw [if_pos (by clear w1 w2; omega), if_pos (by clear w1 w2; omega), if_pos (by clear w1 w2; omega), if_pos (by clear w1 w2; omega), if_pos (by clear w1 w2; omega)]
theorem sIsPlan_l3 {K : Nat} (hK : K ≤ 9) (f : Int) (l : List S93) (hl : l.length ≤ 600) (hok : okS (K : Int) l = true) (s : Nat) (r : Bool) (hr : Ev (fun k => spec_PlanOk.l5 k (s : Int) (cntT (2 ^ (K - 1)) s (pts l)) 0 f (K : Int) l) r) :
 ∀ (d i : Nat) (P : List Nat), l.length - i = d → i ≤ l.length → pts l = P ++ pts (l.drop i) → P.length ≤ i * 256 →
 Ev (fun k => spec_PlanOk.l3 k (s : Int) (cntT (2 ^ (K - 1)) s P) (i : Int) f (K : Int) l) r := by
 intro d
 induction d with
 | zero =>
  intro i P hd hi hA hlen
  rw [List.drop_of_length_le (by omega), pts, List.append_nil] at hA
  rw [hA] at hr
  refine Ev.step (fun k => ?_) hr
  simp only [spec_PlanOk.l3]
  rw [if_neg (by omega)]
 | succ d ih =>
  intro i P hd hi hA hlen
  have hil : i < l.length := by omega
  obtain ⟨lv, fr, en, e1, e2, e3, h1, h2, h3, h4⟩ := step_nat hK (s := rd_T93 l (i : Int)) (okS_at hok hil).1
  have hA2 : pts l = (P ++ rngP lv fr (en - fr)) ++ pts (l.drop (i + 1)) := by
   rw [hA, List.drop_eq_getElem_cons hil, pts, ← rdStep hil, List.append_assoc]
   unfold ptsOf
   rw [e1, e2, e3]
   congr 2
   congr 1
   omega
  have key := ih (i + 1) _ (by omega) (by omega) hA2 (by rw [List.length_append, rngP_len]; omega)
  by_cases hs : lv = s
  · subst hs
    have k4 := sIsPlan_l4 (K := K) f l hl (2 ^ (K - 1)) lv i en (by omega) hil e3 h3 r (en - fr) fr P (by omega) (by omega) key
    rw [show ((fr : Nat) : Int) = (rd_T93 l (i : Int)).f1 from e2.symm] at k4
    refine Ev.step (fun k => ?_) k4
    simp only [spec_PlanOk.l3, e1]
    rw [if_pos (by omega), if_pos (by omega), if_pos trivial]
  · rw [cntT_far _ _ (by omega) lv fr (en - fr) (by omega) hs] at key
    refine Ev.step (fun k => ?_) key
    simp only [spec_PlanOk.l3, e1]
    rw [if_pos (by omega), if_pos (by omega), if_neg (by omega), wsucc (by omega)]
theorem sIsPlan_l5 {K : Nat} (f : Int) (l : List S93) (N s : Nat) (hN : N ≤ 512) (hs : s ≤ 512) (A : List Nat) (r : Bool) (hr : Ev (fun k => spec_PlanOk.l1 k ((s + 1 : Nat) : Int) f (K : Int) l) r) : ∀ (d b : Nat), N - b = d → b ≤ N →
 Ev (fun k => spec_PlanOk.l5 k (s : Int) (cntT N s A) (b : Int) f (K : Int) l) (allF d b (fun b => decide (A.count (s * 512 + b) = 1)) && r) := by
 have hlen : (cntT N s A).length = N := tab_len _ _
 intro d
 induction d with
 | zero =>
  intro b hd hb
  refine Ev.step (fun k => ?_) hr
  simp only [spec_PlanOk.l5, hlen]
  rw [if_neg (by omega), wsucc (by omega)]
 | succ d ih =>
  intro b hd hb
  have hrd : rd (cntT N s A) (b : Int) = ((A.count (s * 512 + b) : Nat) : Int) := tab_rd (by omega)
  rw [allF]
  by_cases h : A.count (s * 512 + b) = 1
  · rw [decide_eq_true h, Bool.true_and]
    refine Ev.step (fun k => ?_) (ih (b + 1) (by omega) (by omega))
    simp only [spec_PlanOk.l5, hlen, hrd]
    rw [if_pos (by omega), if_pos (by omega), if_pos (by omega), wsucc (by omega)]
  · rw [decide_eq_false h, Bool.false_and, Bool.false_and]
    refine ev_now fun k => ?_
    simp only [spec_PlanOk.l5, hlen, hrd]
    rw [if_pos (by omega), if_pos (by omega), if_neg (by omega)]
theorem sIsPlan_l2 {K : Nat} (hK1 : 1 ≤ K) (hK : K ≤ 9) (f : Int) (l : List S93) (s : Nat) (r : Bool) (hr : Ev (fun k => spec_PlanOk.l3 k (s : Int) (cntT (2 ^ (K - 1)) s []) 0 f (K : Int) l) r) : ∀ (d b : Nat), 2 ^ (K - 1) - b = d → b ≤ 2 ^ (K - 1) →
 Ev (fun k => spec_PlanOk.l2 k (s : Int) (cntT b s []) (b : Int) f (K : Int) l) r := by
 have hh := shl_half (k := (K : Int)) (by omega) (by omega)
 have hp := (shl_pow (i := K) (by omega)).2.2
 have hhK : halfK (K : Int) = ((2 ^ (K - 1) : Nat) : Int) := by unfold halfK; rw [Int.toNat_natCast]; simp
 have h9 := pow2_9 (K := K - 1) (by omega)
 rw [hhK] at hh
 generalize 2 ^ (K - 1) = N at *
 intro d
 induction d with
 | zero =>
  intro b hd hb
  obtain rfl : b = N := by omega
  refine Ev.step (fun k => ?_) hr
  simp only [spec_PlanOk.l2, hh.2.1]
  rw [if_pos hp, if_neg (by omega)]
 | succ d ih =>
  intro b hd hb
  have key := ih (b + 1) (by omega) (by omega)
  have e : cntT (b + 1) s [] = cntT b s [] ++ [0] := by unfold cntT; rw [← tab_snoc]; simp
  rw [e] at key
  refine Ev.step (fun k => ?_) key
  have hlen : (cntT b s []).length = b := tab_len _ _
  simp only [spec_PlanOk.l2, hh.2.1, hlen]
  rw [if_pos hp, if_pos (by omega), if_pos (by omega), wsucc (by omega)]
theorem sIsPlan_l1 {K : Nat} (hK : K ≤ 9) (f : Int) (l : List S93) (hl : l.length ≤ 600) (hok : okS (K : Int) l = true) : ∀ (d s : Nat), K - s = d → s ≤ K →
 Ev (fun k => spec_PlanOk.l1 k (s : Int) f (K : Int) l) (allF d s (fun s => allF (2 ^ (K - 1)) 0 (fun b => decide ((pts l).count (s * 512 + b) = 1)))) := by
 intro d
 induction d with
 | zero =>
  intro s hd hs
  refine ev_now fun k => ?_
  simp only [spec_PlanOk.l1]
  rw [if_neg (by omega)]; rfl
 | succ d ih =>
  intro s hd hs
  have h9 := pow2_9 (K := K - 1) (by omega)
  have k5 := sIsPlan_l5 (K := K) f l (2 ^ (K - 1)) s h9.1 (by omega) (pts l) _ (ih (s + 1) (by omega) (by omega)) (2 ^ (K - 1)) 0 (by omega) (by omega)
  have k3 := sIsPlan_l3 hK f l hl hok s _ k5 l.length 0 [] (by omega) (by omega) rfl (by simp)
  have k2 := sIsPlan_l2 (by omega) hK f l s _ k3 (2 ^ (K - 1)) 0 (by omega) (by omega)
  rw [allF]
  refine Ev.step (fun k => ?_) k2
  simp only [spec_PlanOk.l1]
  rw [if_pos (by omega)]
  rfl
theorem sIsPlan_l0 {K : Nat} (hK : K ≤ 9) (f : Int) (l : List S93) (hl : l.length ≤ 600) : ∀ (d i : Nat), l.length - i = d → i ≤ l.length → (∀ j, j < i → okAt (K : Int) l j) →
 Ev (fun k => spec_PlanOk.l0 k (i : Int) f (K : Int) l) (okS (K : Int) l && onceB K l) := by
 intro d
 induction d with
 | zero =>
  intro i hd hi hok
  have hokS : okS (K : Int) l = true := (allF_iff _ _ _).2 (fun j _ hj => decide_eq_true (hok j (by omega)))
  have key := sIsPlan_l1 hK f l hl hokS K 0 (by omega) (by omega)
  rw [hokS, Bool.true_and]
  refine Ev.step (fun k => ?_) key
  simp only [spec_PlanOk.l0]
  rw [if_neg (by omega)]
  rfl
 | succ d ih =>
  intro i hd hi hok
  have hil : i < l.length := by omega
  by_cases hs : okAt (K : Int) l i
  · refine Ev.step (fun k => ?_) (ih (i + 1) (by omega) (by omega) (fun j hj => by
     by_cases hji : j = i
     · rw [hji]; exact hs
     · exact hok j (by omega)))
    simp only [spec_PlanOk.l0, sStep hK, decide_eq_true hs.1, Option.bind_some, if_true]
    rw [if_pos (by omega), if_pos (by omega), wsucc (by omega)]
    by_cases hi0 : 0 < i
    · have hle := hs.2 hi0
      have w1 : wrap64 ((i : Int) - 1) = ((i - 1 : Nat) : Int) := w64n (by omega) (by omega)
      rw [w1, if_pos (by clear w1; omega), if_pos (by clear w1; omega), if_pos (by clear w1; omega), if_neg (by clear w1; omega)]
    · rw [if_neg (by omega)]
  · have hokS : okS (K : Int) l = false := by
     rw [← Bool.not_eq_true]
     exact fun h => hs (okS_at h hil)
    rw [hokS, Bool.false_and]
    refine ev_now fun k => ?_
    by_cases h1 : stepP (K : Int) (rd_T93 l (i : Int)).f0 (rd_T93 l (i : Int)).f1 (rd_T93 l (i : Int)).f2
    · by_cases hi0 : 0 < i
      · have hle : ¬ ((rd_T93 l ((i - 1 : Nat) : Int)).f0 ≤ (rd_T93 l (i : Int)).f0) := fun h => hs ⟨h1, fun _ => h⟩
        have w1 : wrap64 ((i : Int) - 1) = ((i - 1 : Nat) : Int) := w64n (by omega) (by omega)
        simp only [spec_PlanOk.l0, sStep hK, decide_eq_true h1, Option.bind_some, if_true, w1]
        rw [if_pos (by clear w1; omega), if_pos (by clear w1; omega), if_pos (by clear w1; omega), if_pos (by clear w1; omega), if_pos (by clear w1; omega), if_pos (by clear w1; omega)]
      · exact absurd ⟨h1, fun h => absurd h hi0⟩ hs
    · simp only [spec_PlanOk.l0, sStep hK, decide_eq_false h1, Option.bind_some, Bool.false_eq_true, if_false]
      rw [if_pos (by omega), if_pos (by omega)]
theorem sIsPlan_ev (f K : Int) (l : List S93) (hl : l.length ≤ 1048576) : Ev (fun k => spec_PlanOk.f k f K l) (decide (planV f K l)) := by
 obtain ⟨m, em⟩ := evs1 (sLog_ev f K)
 by_cases h : logP f K
 · have h' := h
   obtain ⟨hf, hK0, hK9, hKT⟩ := h'
   obtain ⟨n, rfl⟩ := Int.eq_ofNat_of_zero_le hK0
   by_cases hl6 : l.length ≤ 600
   · have key := sIsPlan_l0 (K := n) (by omega) f l hl6 l.length 0 (by omega) (by omega) (by intro j hj; omega)
     have e : decide (planV f (n : Int) l) = (okS (n : Int) l && onceB n l) := by
      rw [← Bool.decide_coe (okS (n : Int) l && onceB n l)]
      refine decide_eq_decide.2 ⟨fun x => ?_, fun x => ?_⟩
      · have h3 := x.2.2.1
        have h4 := x.2.2.2
        rw [Int.toNat_natCast] at h4
        rw [h3, h4]; rfl
      · rw [Bool.and_eq_true] at x
        exact ⟨h, hl6, x.1, by rw [Int.toNat_natCast]; exact x.2⟩
     rw [e]
     have key2 : Ev (fun k => spec_PlanOk.j0 k false f (n : Int) l) (okS (n : Int) l && onceB n l) := Ev.step (fun k => by simp only [spec_PlanOk.j0, Bool.false_eq_true, if_false]; rfl) key
     obtain ⟨m2, e2⟩ := evs1 key2
     refine ⟨m + m2, fun k hk => ?_⟩
     obtain ⟨j, rfl⟩ : ∃ j, k = m + m2 + j := ⟨k - (m + m2), by omega⟩
     have em' := em (m2 + j)
     rw [← Nat.add_assoc] at em'
     have e2' := e2 (m + j)
     rw [← Nat.add_assoc, Nat.add_comm m2 m] at e2'
     simp only [spec_PlanOk.f, em', decide_eq_true h, Option.bind_some, if_true, decide_eq_false (show ¬ ((l.length : Int) > 600) by omega), e2']
   · refine ⟨m + 1, fun k hk => ?_⟩
     obtain ⟨j, rfl⟩ : ∃ j, k = m + j + 1 := ⟨k - m - 1, by omega⟩
     have em' := em (j + 1)
     rw [← Nat.add_assoc] at em'
     simp only [spec_PlanOk.f, em', decide_eq_true h, Option.bind_some, if_true, decide_eq_true (show ((l.length : Int) > 600) by omega), spec_PlanOk.j0]
     rw [decide_eq_false (fun x : planV _ _ _ => hl6 x.2.1)]
 · refine ⟨m + 1, fun k hk => ?_⟩
   obtain ⟨j, rfl⟩ : ∃ j, k = m + j + 1 := ⟨k - m - 1, by omega⟩
   have em' := em (j + 1)
   rw [← Nat.add_assoc] at em'
   simp only [spec_PlanOk.f, em', decide_eq_false h, Option.bind_some, Bool.false_eq_true, if_false, spec_PlanOk.j0, if_true]
   rw [decide_eq_false (fun x : planV _ _ _ => h x.1)]

def costV (f K : Int) (l : List S93) : Int := if planV f K l then ((K.toNat * 2 ^ (K.toNat - 1) : Nat) : Int) else -1
theorem scost {K : Nat} (hK : K ≤ 9) : wrap64 ((K : Int) * wrap64 (Int.tdiv (shl .i64 1 (IntKind.u64.wrap (K : Int))) 2)) = ((K * 2 ^ (K - 1) : Nat) : Int) ∧ 0 ≤ IntKind.u64.wrap (K : Int) := by
 rcases (show K = 0 ∨ K = 1 ∨ K = 2 ∨ K = 3 ∨ K = 4 ∨ K = 5 ∨ K = 6 ∨ K = 7 ∨ K = 8 ∨ K = 9 by omega) with rfl | rfl | rfl | rfl | rfl | rfl | rfl | rfl | rfl | rfl <;> decide +kernel
theorem planV_nat {f K : Int} {l : List S93} (h : planV f K l) : ∃ n : Nat, K = n ∧ n ≤ 9 := by
 obtain ⟨⟨_, h0, h9, _⟩, _⟩ := h
 exact ⟨K.toNat, by omega, by omega⟩
theorem planV_pts {f K : Int} {l : List S93} (h : planV f K l) : (pts l).Nodup ∧ (pts l).length = K.toNat * 2 ^ (K.toNat - 1) := by
 obtain ⟨n, rfl, hn⟩ := planV_nat h
 rw [Int.toNat_natCast]
 exact (once_iff hn l h.2.2.1).1 (by have := h.2.2.2; rwa [Int.toNat_natCast] at this)

theorem sPlanCost_ev (f K : Int) (l : List S93) (hl : l.length ≤ 1048576) : Ev (fun k => spec_PlanCost.f k f K l) (costV f K l) := by
 obtain ⟨m, e⟩ := evs1 (sIsPlan_ev f K l hl)
 refine ⟨m, fun k hk => ?_⟩
 obtain ⟨j, rfl⟩ : ∃ j, k = m + j := ⟨k - m, by omega⟩
 unfold costV
 by_cases h : planV f K l
 · obtain ⟨n, rfl, hn⟩ := planV_nat h
   have hs := scost hn
   simp only [spec_PlanCost.f, e, decide_eq_true h, Option.bind_some, if_true, hs.1, Int.toNat_natCast]
   rw [if_pos hs.2, if_pos h]
 · simp only [spec_PlanCost.f, e, decide_eq_false h, Option.bind_some, Bool.false_eq_true, if_false]
   rw [if_neg h]

def bno (t x : Nat) : Nat := x / 2 ^ t / 2 * 2 ^ t + x % 2 ^ t
theorem bno_div (t x : Nat) : bno t x / 2 ^ t = x / 2 ^ t / 2 ∧ bno t x % 2 ^ t = x % 2 ^ t := by
 have h0 : 0 < 2 ^ t := Nat.pow_pos (by omega)
 have hr := Nat.mod_lt x h0
 unfold bno
 rw [Nat.mul_comm, Nat.mul_add_div h0, Nat.div_eq_of_lt hr, Nat.mul_add_mod, Nat.mod_mod]
 omega
theorem bno_iff (t x b : Nat) : bno t x = b ↔ (x = posB t b ∨ x = posB t b + 2 ^ t) := by
 have h0 : 0 < 2 ^ t := Nat.pow_pos (by omega)
 have hd := Nat.div_add_mod x (2 ^ t)
 constructor
 · rintro rfl
   obtain ⟨e1, e2⟩ := bno_div t x
   unfold posB
   rw [e1, e2]
   rcases Nat.mod_two_eq_zero_or_one (x / 2 ^ t) with h | h
   · left
     rw [show 2 * (x / 2 ^ t / 2) = x / 2 ^ t by omega]; omega
   · right
     have : 2 ^ t * (x / 2 ^ t) = 2 ^ t * (2 * (x / 2 ^ t / 2)) + 2 ^ t := by
      rw [show x / 2 ^ t = 2 * (x / 2 ^ t / 2) + 1 by omega, Nat.mul_add, Nat.mul_one]
      rw [show 2 * ((2 * (x / 2 ^ t / 2) + 1) / 2) = 2 * (x / 2 ^ t / 2) by omega]
     omega
 · have hr := Nat.mod_lt b h0
   have hb := Nat.div_add_mod b (2 ^ t)
   rintro (rfl | rfl)
   · unfold bno posB
     rw [Nat.mul_add_div h0, Nat.div_eq_of_lt hr, Nat.mul_add_mod, Nat.mod_mod, Nat.add_zero, show 2 * (b / 2 ^ t) / 2 = b / 2 ^ t by omega, Nat.mul_comm]; omega
   · unfold bno posB
     rw [show 2 ^ t * (2 * (b / 2 ^ t)) + b % 2 ^ t + 2 ^ t = 2 ^ t * (2 * (b / 2 ^ t) + 1) + b % 2 ^ t by rw [Nat.mul_add]; omega, Nat.mul_add_div h0, Nat.div_eq_of_lt hr, Nat.mul_add_mod, Nat.mod_mod, Nat.add_zero, show (2 * (b / 2 ^ t) + 1) / 2 = b / 2 ^ t by omega, Nat.mul_comm]; omega
theorem bno_lt {K t x : Nat} (ht : t < K) (hx : x < 2 ^ K) : bno t x < 2 ^ (K - 1) := by
 have h0 : 0 < 2 ^ t := Nat.pow_pos (by omega)
 obtain ⟨m, rfl⟩ : ∃ m, K = t + 1 + m := ⟨K - (t + 1), by omega⟩
 have e2 : 2 ^ (t + 1 + m) = 2 ^ t * (2 * 2 ^ m) := by rw [Nat.pow_add, Nat.pow_succ, Nat.mul_assoc]
 have hq : x / 2 ^ t < 2 * 2 ^ m := Nat.div_lt_of_lt_mul (by rw [← e2]; exact hx)
 have hr := Nat.mod_lt x h0
 unfold bno
 rw [show t + 1 + m - 1 = t + m by omega, Nat.pow_add]
 have h1 : (x / 2 ^ t / 2 + 1) * 2 ^ t ≤ 2 ^ m * 2 ^ t := Nat.mul_le_mul (by omega) (Nat.le_refl _)
 rw [Nat.add_mul, Nat.one_mul] at h1
 rw [Nat.mul_comm (2 ^ t) (2 ^ m)]
 omega
theorem runL_tab (f : Int) (lv : Nat) (v : List Int) (n : Nat) : ∀ (d b : Nat) (g : Nat → Int), runL f lv v d b (tab n g) = tab n (fun x => if b ≤ bno lv x ∧ bno lv x < b + d then stP f lv v x else g x) := by
 intro d
 induction d with
 | zero =>
  intro b g
  rw [runL]
  refine tab_congr fun x _ => ?_
  rw [if_neg (by omega)]
 | succ d ih =>
  intro b g
  rw [runL, tab_set, tab_set, ih]
  refine tab_congr fun x _ => ?_
  have h0 : 0 < 2 ^ lv := Nat.pow_pos (by omega)
  by_cases hb : bno lv x = b
  · have c1 : ¬ (b + 1 ≤ bno lv x ∧ bno lv x < b + 1 + d) := by omega
    have c2 : b ≤ bno lv x ∧ bno lv x < b + (d + 1) := by omega
    rw [if_neg c1, if_pos c2]
    rcases (bno_iff lv x b).1 hb with h | h
    · have c3 : ¬ x = posB lv b + 2 ^ lv := by omega
      rw [if_neg c3, if_pos h, h]
    · rw [if_pos h, h]
  · have hne : ¬ (x = posB lv b ∨ x = posB lv b + 2 ^ lv) := fun h => hb ((bno_iff lv x b).2 h)
    by_cases hc : b + 1 ≤ bno lv x ∧ bno lv x < b + 1 + d
    · have c2 : b ≤ bno lv x ∧ bno lv x < b + (d + 1) := by omega
      rw [if_pos hc, if_pos c2]
    · have c2 : ¬ (b ≤ bno lv x ∧ bno lv x < b + (d + 1)) := by omega
      rw [if_neg hc, if_neg c2, if_neg (fun h => hne (Or.inr h)), if_neg (fun h => hne (Or.inl h))]
theorem stg_two {p W : Int} {s : Nat} {a b : Nat → Int} {x : Nat} (h1 : a x = b x) (h2 : x / 2 ^ s % 2 = 0 → a (x + 2 ^ s) = b (x + 2 ^ s)) (h3 : x / 2 ^ s % 2 ≠ 0 → a (x - 2 ^ s) = b (x - 2 ^ s)) : stg p W s a x = stg p W s b x := by
 unfold stg
 by_cases c : x / 2 ^ s % 2 = 0
 · rw [if_pos c, if_pos c, h1, h2 c]
 · rw [if_neg c, if_neg c, h1, h3 c]
theorem bno_up {t x : Nat} (h : x / 2 ^ t % 2 = 0) : bno t (x + 2 ^ t) = bno t x := by
 have h0 : 0 < 2 ^ t := Nat.pow_pos (by omega)
 unfold bno
 rw [Nat.add_div_right _ h0, Nat.add_mod_right, show (x / 2 ^ t).succ / 2 = x / 2 ^ t / 2 by omega]
theorem bno_down {t x : Nat} (h : x / 2 ^ t % 2 ≠ 0) : bno t (x - 2 ^ t) = bno t x := by
 have h0 : 0 < 2 ^ t := Nat.pow_pos (by omega)
 have h1 : 2 ^ t ≤ x := by
  have hd := Nat.div_add_mod x (2 ^ t)
  have hq1 : 1 ≤ x / 2 ^ t := by
   generalize x / 2 ^ t = q at h
   omega
  have h2 : 2 ^ t * 1 ≤ 2 ^ t * (x / 2 ^ t) := Nat.mul_le_mul (Nat.le_refl _) hq1
  omega
 obtain ⟨y, rfl⟩ : ∃ y, x = y + 2 ^ t := ⟨x - 2 ^ t, by omega⟩
 rw [Nat.add_sub_cancel]
 refine (bno_up ?_).symm
 rw [Nat.add_div_right _ h0] at h
 generalize y / 2 ^ t = q at h ⊢
 omega
def hgt (P : List Nat) : Nat → Nat → Nat
 | 0, _ => 0
 | t + 1, x => hgt P t x + if t * 512 + bno t x ∈ P then 1 else 0
theorem hgt_eq {P : List Nat} {x lv : Nat} : ∀ K, lv ≤ K → (∀ t, t < lv → t * 512 + bno t x ∈ P) → (∀ t, lv ≤ t → t < K → t * 512 + bno t x ∉ P) → hgt P K x = lv := by
 intro K
 induction K with
 | zero => intro h _ _; simp [hgt]; omega
 | succ K ih =>
  intro h h1 h2
  rw [hgt]
  by_cases hk : lv ≤ K
  · rw [ih hk h1 (fun t a b => h2 t a (by omega)), if_neg (h2 K hk (by omega))]; rfl
  · have e : lv = K + 1 := by omega
    have hall : ∀ n, n ≤ K → hgt P n x = n := by
     intro n
     induction n with
     | zero => intro _; rfl
     | succ n ihn => intro hn; rw [hgt, ihn (by omega), if_pos (h1 n (by omega))]
    rw [hall K (Nat.le_refl _), if_pos (h1 K (by omega)), e]
theorem hgt_congr {P Q : List Nat} {x : Nat} : ∀ K, (∀ t, t < K → (t * 512 + bno t x ∈ P ↔ t * 512 + bno t x ∈ Q)) → hgt P K x = hgt Q K x := by
 intro K
 induction K with
 | zero => intro _; rfl
 | succ K ih =>
  intro h
  rw [hgt, hgt, ih (fun t ht => h t (by omega))]
  by_cases hp : K * 512 + bno K x ∈ P
  · rw [if_pos hp, if_pos ((h K (by omega)).1 hp)]
  · rw [if_neg hp, if_neg (fun hq => hp ((h K (by omega)).2 hq))]
def curP (f : Int) (K : Nat) (a : Nat → Int) (P : List Nat) (x : Nat) : Int := lev (mdP f) (rt f) a (hgt P K x) x

def rowsL (h : Nat) (g : Nat → List Int) : List (List Int) := (List.range h).map g
theorem rowsL_len (h : Nat) (g : Nat → List Int) : (rowsL h g).length = h := by simp [rowsL]
theorem rowsL_rd {h x : Nat} (g : Nat → List Int) (hx : x < h) : rd_L3 (rowsL h g) (x : Int) = g x := by
 simp [rd_L3, rowsL, List.getD_eq_getElem?_getD, hx]
theorem rowsL_congr {h : Nat} {g g' : Nat → List Int} (he : ∀ x, x < h → g x = g' x) : rowsL h g = rowsL h g' := List.map_congr_left fun x hx => he x (List.mem_range.1 hx)
theorem rowsL_snoc (h : Nat) (g : Nat → List Int) : rowsL h g ++ [g h] = rowsL (h + 1) g := by simp [rowsL, List.range_succ]
theorem rowsL_set {h x : Nat} (g : Nat → List Int) (v : List Int) : (rowsL h g).set x v = rowsL h (fun y => if y = x then v else g y) := by
 apply List.ext_getElem
 · simp [rowsL]
 · intro i h1 h2
   rw [List.getElem_set]
   simp only [rowsL, List.getElem_map, List.getElem_range]
   by_cases c : i = x
   · rw [if_pos c.symm, if_pos c]
   · rw [if_neg (fun hh => c hh.symm), if_neg c]

def posL (l : List S93) : Nat → Nat
 | 0 => 0
 | i + 1 => if (rd_T93 l ((i + 1 : Nat) : Int)).f0 = (rd_T93 l (i : Int)).f0 then posL l i + 1 else 0
theorem posL_le (l : List S93) : ∀ i, posL l i ≤ i
 | 0 => Nat.le_refl _
 | i + 1 => by
  have := posL_le l i
  rw [posL]
  split <;> omega
def mineL (l : List S93) (h w : Nat) : Nat → List Int
 | 0 => []
 | i + 1 => if posL l i % h = w then mineL l h w i ++ [(i : Int)] else mineL l h w i
theorem mineL_len (l : List S93) (h w : Nat) : ∀ i, (mineL l h w i).length ≤ i
 | 0 => Nat.le_refl _
 | i + 1 => by
  have := mineL_len l h w i
  rw [mineL]
  split
  · rw [List.length_append]; simp; omega
  · omega
def dealC (f K : Int) (l : List S93) (a : Int) : Prop := planV f K l ∧ 1 ≤ a ∧ a ≤ 16
instance dealC_dec (f K : Int) (l : List S93) (a : Int) : Decidable (dealC f K l a) := by unfold dealC; infer_instance
def dealR (f K : Int) (l : List S93) (a : Int) : List (List Int) × Bool := if dealC f K l a then (rowsL a.toNat (fun w => mineL l a.toNat w l.length), true) else ([], false)
theorem dealR_len (f K : Int) (l : List S93) (a : Int) : (dealR f K l a).1.length ≤ 16 ∧ ∀ r ∈ (dealR f K l a).1, r.length ≤ 600 := by
 unfold dealR
 split
 · rename_i h
   refine ⟨by rw [rowsL_len]; have := h.2; omega, fun r hr => ?_⟩
   obtain ⟨w, _, rfl⟩ := List.mem_map.1 hr
   exact Nat.le_trans (mineL_len l _ w _) h.1.2.1
 · simp
theorem deal_put (l : List S93) (h i : Nat) {x : Nat} (hx : x = posL l i % h) (hh : x < h) : (rowsL h (fun w => mineL l h w i)).set x (rd_L3 (rowsL h (fun w => mineL l h w i)) (x : Int) ++ [(i : Int)]) = rowsL h (fun w => mineL l h w (i + 1)) := by
 rw [rowsL_rd _ hh, rowsL_set]
 refine rowsL_congr fun y _ => ?_
 rw [mineL]
 by_cases c : y = x
 · rw [if_pos c, if_pos (by rw [c, hx]), c]
 · rw [if_neg c, if_neg (fun e => c (by rw [hx, e]))]

theorem sDeal_j3 (f K : Int) (l : List S93) (hl : l.length ≤ 600) (h w : Nat) (hh : h ≤ 16) (h1 : 1 ≤ h) (hw : w < h) (out : List (List Int)) (i a : Nat) (hi : i < l.length) (x : Bool) (hx : x = true → posL l i = 0) (hy : x = false → a = posL l i) (T : List (List Int) × Bool)
 (key : Ev (fun k => spec_Deal.l1 k (h : Int) out (w : Int) (mineL l h w (i + 1)) ((posL l i + 1 : Nat) : Int) ((i + 1 : Nat) : Int) f K l) T) : Ev (fun k => spec_Deal.j3 k (h : Int) out (w : Int) (mineL l h w i) (a : Int) (i : Int) x f K l) T := by
 have hp := posL_le l i
 have hm := mineL_len l h w i
 refine Ev.step (fun k => ?_) key
 rw [mineL]
 cases x with
 | true =>
  have e0 := hx rfl
  simp only [spec_Deal.j3, if_true]
  rw [if_neg (by omega), wsucc (by omega)]
  by_cases c : w = 0
  · rw [if_pos (show (0 : Int) % (h : Int) = (w : Int) by rw [Int.zero_emod]; omega), if_pos (by omega), if_pos (show posL l i % h = w by rw [e0, Nat.zero_mod]; omega), e0]; rfl
  · rw [if_neg (show ¬ ((0 : Int) % (h : Int) = (w : Int)) by rw [Int.zero_emod]; omega), if_neg (show ¬ posL l i % h = w by rw [e0, Nat.zero_mod]; omega), e0]; rfl
 | false =>
  have e0 := hy rfl
  have e1 : Int.tmod (a : Int) (h : Int) = ((posL l i % h : Nat) : Int) := by rw [e0, Int.tmod_eq_emod_of_nonneg (by omega)]; omega
  simp only [spec_Deal.j3, Bool.false_eq_true, if_false, e1]
  rw [if_neg (by omega), wsucc (by omega), wsucc (by omega), e0]
  by_cases c : posL l i % h = w
  · rw [if_pos (by omega), if_pos (by omega), if_pos c]
  · rw [if_neg (by omega), if_neg c]
theorem sDeal_l1 (f K : Int) (l : List S93) (hl : l.length ≤ 600) (h w : Nat) (hh : h ≤ 16) (h1 : 1 ≤ h) (hw : w < h) (out : List (List Int)) (ho : out.length ≤ 16) (T : List (List Int) × Bool)
 (key : Ev (fun k => spec_Deal.l0 k (h : Int) (out ++ [mineL l h w l.length]) ((w + 1 : Nat) : Int) f K l) T) : ∀ (d i a : Nat), l.length - i = d → i ≤ l.length → (i = 0 → a = 0) → (∀ j, i = j + 1 → a = posL l j + 1) →
 Ev (fun k => spec_Deal.l1 k (h : Int) out (w : Int) (mineL l h w i) (a : Int) (i : Int) f K l) T := by
 intro d
 induction d with
 | zero =>
  intro i a hd hi _ _
  obtain rfl : i = l.length := by omega
  refine Ev.step (fun k => ?_) key
  simp only [spec_Deal.l1]
  rw [if_neg (by omega), if_pos (by omega), wsucc (by omega)]
 | succ d ih =>
  intro i a hd hi ha0 ha
  have hi' : i < l.length := by omega
  have ke := ih (i + 1) (posL l i + 1) (by omega) (by omega) (by omega) (fun j hj => by rw [show j = i by omega])
  cases i with
  | zero =>
   have k3 := sDeal_j3 f K l hl h w hh h1 hw out 0 a hi' false (fun e => by cases e) (fun _ => ha0 rfl) T ke
   refine Ev.step (fun k => ?_) k3
   simp only [spec_Deal.l1]
   rw [if_pos (by omega), if_neg (by omega)]
  | succ j =>
   have e1 : wrap64 (((j + 1 : Nat) : Int) - 1) = (j : Int) := w64n (a := j) (by omega) (by omega)
   have ej := ha j rfl
   by_cases c : (rd_T93 l ((j + 1 : Nat) : Int)).f0 = (rd_T93 l (j : Int)).f0
   · have k3 := sDeal_j3 f K l hl h w hh h1 hw out (j + 1) a hi' false (fun e => by cases e) (fun _ => by rw [posL, if_pos c]; exact ej) T ke
     refine Ev.step (fun k => ?_) k3
     simp only [spec_Deal.l1, e1]
     rw [if_pos (by omega), if_pos (by omega), if_pos (by omega), if_pos (by omega), if_pos (by omega), c, bne_self_eq_false]
   · have k3 := sDeal_j3 f K l hl h w hh h1 hw out (j + 1) a hi' true (fun _ => by rw [posL, if_neg c]) (fun e => by cases e) T ke
     refine Ev.step (fun k => ?_) k3
     simp only [spec_Deal.l1, e1]
     rw [if_pos (by omega), if_pos (by omega), if_pos (by omega), if_pos (by omega), if_pos (by omega), bne_iff_ne.2 c]
theorem sDeal_l0 (f K : Int) (l : List S93) (hl : l.length ≤ 600) (h : Nat) (hh : h ≤ 16) (h1 : 1 ≤ h) : ∀ (d w : Nat), h - w = d → w ≤ h →
 Ev (fun k => spec_Deal.l0 k (h : Int) (rowsL w (fun w => mineL l h w l.length)) (w : Int) f K l) (rowsL h (fun w => mineL l h w l.length), true) := by
 intro d
 induction d with
 | zero =>
  intro w hd hw
  obtain rfl : w = h := by omega
  refine ev_now fun k => ?_
  simp only [spec_Deal.l0]
  rw [if_neg (by omega)]
 | succ d ih =>
  intro w hd hw
  have key := ih (w + 1) (by omega) (by omega)
  rw [← rowsL_snoc] at key
  have k1 := sDeal_l1 f K l hl h w hh h1 (by omega) _ (by rw [rowsL_len]; omega) _ key l.length 0 0 (by omega) (by omega) (fun _ => rfl) (fun j hj => by omega)
  refine Ev.step (fun k => ?_) k1
  simp only [spec_Deal.l0]
  rw [if_pos (by omega)]
  rfl
theorem sDeal_ev (f K : Int) (l : List S93) (a : Int) (hl : l.length ≤ 1048576) : Ev (fun k => spec_Deal.f k f K l a) (dealR f K l a) := by
 have hP := sIsPlan_ev f K l hl
 unfold dealR
 by_cases h : planV f K l
 · by_cases h1 : 1 ≤ a
   · by_cases h2 : a ≤ 16
     · rw [if_pos ⟨h, h1, h2⟩]
       obtain ⟨n, rfl⟩ : ∃ n : Nat, a = n := ⟨a.toNat, by omega⟩
       have key := sDeal_l0 f K l h.2.1 n (by omega) (by omega) n 0 (by omega) (by omega)
       obtain ⟨m, e1, e2⟩ := evs2 hP key
       refine ⟨m + 1, fun k hk => ?_⟩
       obtain ⟨j, rfl⟩ : ∃ j, k = m + (j + 1) := ⟨k - m - 1, by omega⟩
       simp only [spec_Deal.f, spec_l01In.f, e1, decide_eq_true h, Option.bind_some, if_true]
       rw [if_pos h1, decide_eq_true h2, show m + (j + 1) = m + j + 1 from rfl]
       simp only [Option.bind_some, Bool.not_true, spec_Deal.j0, Bool.false_eq_true, if_false]
       exact e2 j
     · rw [if_neg (fun hc => h2 hc.2.2)]
       obtain ⟨m, e1⟩ := evs1 hP
       refine ⟨m + 1, fun k hk => ?_⟩
       obtain ⟨j, rfl⟩ : ∃ j, k = m + (j + 1) := ⟨k - m - 1, by omega⟩
       simp only [spec_Deal.f, spec_l01In.f, e1, decide_eq_true h, Option.bind_some, if_true]
       rw [if_pos h1, decide_eq_false h2, show m + (j + 1) = m + j + 1 from rfl]
       simp only [Option.bind_some, Bool.not_false, spec_Deal.j0, if_true]
   · rw [if_neg (fun hc => h1 hc.2.1)]
     obtain ⟨m, e1⟩ := evs1 hP
     refine ⟨m + 1, fun k hk => ?_⟩
     obtain ⟨j, rfl⟩ : ∃ j, k = m + (j + 1) := ⟨k - m - 1, by omega⟩
     simp only [spec_Deal.f, spec_l01In.f, e1, decide_eq_true h, Option.bind_some, if_true]
     rw [if_neg h1, show m + (j + 1) = m + j + 1 from rfl]
     simp only [Option.bind_some, Bool.not_false, spec_Deal.j0, if_true]
 · rw [if_neg (fun hc => h hc.1)]
   obtain ⟨m, e1⟩ := evs1 hP
   refine ⟨m + 1, fun k hk => ?_⟩
   obtain ⟨j, rfl⟩ : ∃ j, k = m + (j + 1) := ⟨k - m - 1, by omega⟩
   simp only [spec_Deal.f, e1, decide_eq_false h, Option.bind_some, Bool.false_eq_true, if_false]
   rw [show m + (j + 1) = m + j + 1 from rfl]
   simp only [spec_Deal.j0, if_true]

theorem iDeal_l0 (f K : Int) (l : List S93) (hl : l.length ≤ 600) (h : Nat) (hh : h ≤ 16) (h1 : 1 ≤ h) : ∀ (d i x : Nat), l.length - i = d → i ≤ l.length → x < h → (i = 0 → x = 0) → (∀ j, i = j + 1 → x = (posL l j + 1) % h) →
 Ev (fun k => impl_deal.l0 k (h : Int) (rowsL h (fun w => mineL l h w i)) (x : Int) l (l.length : Int) (i : Int) f K l) (rowsL h (fun w => mineL l h w l.length)) := by
 intro d
 induction d with
 | zero =>
  intro i x hd hi _ _ _
  obtain rfl : i = l.length := by omega
  refine ev_now fun k => ?_
  simp only [impl_deal.l0]
  rw [if_neg (by omega)]
 | succ d ih =>
  intro i x hd hi hx hx0 hxs
  have hi' : i < l.length := by omega
  have hm := Nat.mod_lt (posL l i) (show 0 < h by omega)
  have ke := ih (i + 1) ((posL l i + 1) % h) (by omega) (by omega) (Nat.mod_lt _ (by omega)) (by omega) (fun j hj => by rw [show j = i by omega])
  have hlen : ∀ y : Nat, y < h → (rd_L3 (rowsL h (fun w => mineL l h w i)) (y : Int)).length < 17592186044416 := fun y hy => by rw [rowsL_rd _ hy]; have := mineL_len l h y i; omega
  have go : ∀ k y : Nat, y = posL l i % h → (if 0 ≤ (y : Int) then (if (y : Int) < ((rowsL h (fun w => mineL l h w i)).length : Int) then (if (rd_L3 (rowsL h (fun w => mineL l h w i)) (y : Int)).length < 17592186044416 then (if (h : Int) = 0 then (none) else (impl_deal.l0 k (h : Int) ((rowsL h (fun w => mineL l h w i)).set ((y : Int)).toNat ((rd_L3 (rowsL h (fun w => mineL l h w i)) (y : Int)) ++ [(i : Int)])) (Int.tmod (wrap64 ((y : Int) + 1)) (h : Int)) l (l.length : Int) (wrap64 ((i : Int) + 1)) f K l)) else (none)) else (none)) else (none)) = impl_deal.l0 k (h : Int) (rowsL h (fun w => mineL l h w (i + 1))) (((posL l i + 1) % h : Nat) : Int) l (l.length : Int) ((i + 1 : Nat) : Int) f K l := fun k y hy => by
   have hyh : y < h := by omega
   have e1 : Int.tmod (wrap64 ((y : Int) + 1)) (h : Int) = (((posL l i + 1) % h : Nat) : Int) := by
    rw [wsucc (by omega), Int.tmod_eq_emod_of_nonneg (by omega), hy]
    have : (posL l i % h + 1) % h = (posL l i + 1) % h := by simp [Nat.add_mod]
    rw [← this]; omega
   rw [if_pos (by omega), if_pos (by rw [rowsL_len]; omega), if_pos (hlen y hyh), if_neg (by omega), e1, wsucc (by omega), Int.toNat_natCast, deal_put l h i hy hyh]
  refine Ev.step (fun k => ?_) ke
  simp only [impl_deal.l0]
  rw [if_pos (by omega), if_pos (by omega), if_pos (by omega)]
  cases i with
  | zero =>
   rw [if_neg (by omega)]
   exact go k x (by rw [hx0 rfl, posL, Nat.zero_mod])
  | succ j =>
   have e1 : wrap64 (((j + 1 : Nat) : Int) - 1) = (j : Int) := w64n (a := j) (by omega) (by omega)
   rw [if_pos (by omega), e1, if_pos (by omega), if_pos (by omega)]
   by_cases c : (rd_T93 l (j : Int)).f0 = (rd_T93 l ((j + 1 : Nat) : Int)).f0
   · rw [if_pos c]
     exact go k x (by rw [posL, if_pos c.symm]; exact hxs j rfl)
   · rw [if_neg c]
     have e0 : posL l (j + 1) = 0 := by rw [posL, if_neg (fun e => c e.symm)]
     have g0 := go k 0 (by rw [e0, Nat.zero_mod])
     rw [if_pos (by omega)] at g0
     rw [← g0]
     have e2 : Int.tmod (wrap64 (((0 : Nat) : Int) + 1)) (h : Int) = (0 + 1) % (h : Int) := by rw [wsucc (by omega), Int.tmod_eq_emod_of_nonneg (by omega)]; rfl
     rw [e2]
     rfl

theorem iDeal_ev (f K : Int) (l : List S93) (a : Int) (hl : l.length ≤ 1048576) : Ev (fun k => impl_Deal.f k f K l a) (dealR f K l a) := by
 have hP := iIsPlan_ev f K l hl
 unfold dealR
 by_cases h : planV f K l
 · by_cases h1 : 1 ≤ a
   · by_cases h2 : a ≤ 16
     · rw [if_pos ⟨h, h1, h2⟩]
       obtain ⟨n, rfl⟩ : ∃ n : Nat, a = n := ⟨a.toNat, by omega⟩
       have key := iDeal_l0 f K l h.2.1 n (by omega) (by omega) l.length 0 0 (by omega) (by omega) (by omega) (fun _ => rfl) (fun j hj => by omega)
       have e0 : rowsL n (fun w => mineL l n w 0) = List.replicate n [] := by
        apply List.ext_getElem
        · simp [rowsL]
        · intro i hi1 hi2
          simp [rowsL, mineL]
       rw [e0] at key
       obtain ⟨m, e1, e2⟩ := evs2 hP key
       refine ⟨m, fun k hk => ?_⟩
       obtain ⟨j, rfl⟩ : ∃ j, k = m + j := ⟨k - m, by omega⟩
       have e2' := e2 j
       simp only [impl_Deal.f, impl_deal.f, e1, decide_eq_true h, Option.bind_some, if_true, Int.toNat_natCast]
       rw [if_neg (by omega), if_neg (by omega), if_pos (by omega), if_pos (by omega)]
       rw [show ((0 : Nat) : Int) = 0 from rfl] at e2'
       rw [e2', Option.bind_some]
     · rw [if_neg (fun hc => h2 hc.2.2)]
       obtain ⟨m, e1⟩ := evs1 hP
       refine ⟨m, fun k hk => ?_⟩
       obtain ⟨j, rfl⟩ : ∃ j, k = m + j := ⟨k - m, by omega⟩
       simp only [impl_Deal.f, e1, decide_eq_true h, Option.bind_some, if_true]
       rw [if_neg (by omega), if_pos (by omega)]
   · rw [if_neg (fun hc => h1 hc.2.1)]
     obtain ⟨m, e1⟩ := evs1 hP
     refine ⟨m, fun k hk => ?_⟩
     obtain ⟨j, rfl⟩ : ∃ j, k = m + j := ⟨k - m, by omega⟩
     simp only [impl_Deal.f, e1, decide_eq_true h, Option.bind_some, if_true]
     rw [if_pos (by omega)]
 · rw [if_neg (fun hc => h hc.1)]
   obtain ⟨m, e1⟩ := evs1 hP
   refine ⟨m, fun k hk => ?_⟩
   obtain ⟨j, rfl⟩ : ∃ j, k = m + j := ⟨k - m, by omega⟩
   simp only [impl_Deal.f, e1, decide_eq_false h, Option.bind_some, Bool.false_eq_true, if_false]

def mostG (g : Nat → Int) : Nat → Int
 | 0 => 0
 | n + 1 => if mostG g n < g n then g n else mostG g n
theorem mostG_bound {g : Nat → Int} : ∀ n, (∀ i, i < n → 0 ≤ g i) → 0 ≤ mostG g n ∧ mostG g n ≤ sm n g ∧ sm n g ≤ n * mostG g n ∧ 0 ≤ sm n g
 | 0, _ => by simp [mostG, sm]
 | n + 1, h => by
  obtain ⟨h1, h2, h3, h4⟩ := mostG_bound n (fun i hi => h i (by omega))
  have h5 := h n (by omega)
  rw [mostG, sm]
  split
  · rename_i c
    refine ⟨h5, by omega, ?_, by omega⟩
    have : (n : Int) * mostG g n ≤ n * g n := Int.mul_le_mul_of_nonneg_left (by omega) (by omega)
    rw [show ((n + 1 : Nat) : Int) * g n = n * g n + g n by rw [Int.natCast_add, Int.add_mul]; simp]
    omega
  · rename_i c
    refine ⟨h1, by omega, ?_, by omega⟩
    rw [show ((n + 1 : Nat) : Int) * mostG g n = n * mostG g n + mostG g n by rw [Int.natCast_add, Int.add_mul]; simp]
    omega
theorem sm_mono {g g' : Nat → Int} : ∀ n, (∀ i, i < n → g i ≤ g' i) → sm n g ≤ sm n g'
 | 0, _ => Int.le_refl _
 | n + 1, h => by
  have := sm_mono n (fun i hi => h i (by omega))
  have := h n (by omega)
  rw [sm, sm]
  omega
theorem sm_swap (m : Nat) (g : Nat → Nat → Int) : ∀ n, sm n (fun i => sm m (fun j => g i j)) = sm m (fun j => sm n (fun i => g i j))
 | 0 => by rw [show (fun j => sm 0 (fun i => g i j)) = fun _ => (0 : Int) from rfl, sm_zero]; rfl
 | n + 1 => by
  rw [sm, sm_swap m g n, ← sm_add]
  rfl

theorem cpPlan_l (f K : Int) (l : List S93) (hn : l.length ≤ 1048576) : ∀ (d i : Nat), l.length - i = d → i ≤ l.length → Ev (fun k => laws_cpPlan.l0 k (i : Int) f K l f K (l.take i)) (f, K, l) := by
 intro d
 induction d with
 | zero =>
  intro i h hi
  refine ev_now fun k => ?_
  simp only [laws_cpPlan.l0]
  rw [if_neg (by omega), List.take_of_length_le (by omega)]
 | succ d ih =>
  intro i h hi
  have hil : i < l.length := by omega
  refine Ev.step (fun k => ?_) (ih (i + 1) (by omega) (by omega))
  simp only [laws_cpPlan.l0, rdStep hil]
  rw [if_pos (by omega), if_pos (by omega), if_pos (by simp; omega), wsucc (by omega)]
  rw [← List.take_append_getElem hil]
theorem cpPlan_ev (f K : Int) (l : List S93) (hn : l.length ≤ 1048576) : Ev (fun k => laws_cpPlan.f k f K l) (f, K, l) := Ev.congr (fun k => rfl) (cpPlan_l f K l hn l.length 0 (by omega) (by omega))

def hrs (l : List S93) (s : Int) (A : List Int) : Int := A.foldl (fun a i => if (rd_T93 l i).f0 = s then wrap64 (a + wrap64 ((rd_T93 l i).f2 - (rd_T93 l i).f1)) else a) 0
theorem hrs_snoc (l : List S93) (s : Int) (A : List Int) (i : Int) : hrs l s (A ++ [i]) = if (rd_T93 l i).f0 = s then wrap64 (hrs l s A + wrap64 ((rd_T93 l i).f2 - (rd_T93 l i).f1)) else hrs l s A := by
 unfold hrs
 rw [List.foldl_append]
 rfl
theorem hrs_nil (l : List S93) (s : Int) : hrs l s [] = 0 := rfl
def mostH (l : List S93) (R : List (List Int)) (s : Int) : Nat → Int
 | 0 => 0
 | w + 1 => if mostH l R s w < hrs l s (rd_L3 R (w : Int)) then hrs l s (rd_L3 R (w : Int)) else mostH l R s w
def spanH (l : List S93) (R : List (List Int)) (h : Nat) : Nat → Int
 | 0 => 0
 | s + 1 => wrap64 (spanH l R h s + mostH l R (s : Int) h)
def rowsOk (l : List S93) (R : List (List Int)) : Prop := R.length ≤ 16 ∧ ∀ r ∈ R, r.length ≤ 600 ∧ ∀ i ∈ r, 0 ≤ i ∧ i < (l.length : Int)
theorem mineL_mem (l : List S93) (h w : Nat) : ∀ n, ∀ i ∈ mineL l h w n, 0 ≤ i ∧ i < (n : Int)
 | 0 => by simp [mineL]
 | n + 1 => fun i hi => by
  have ih := mineL_mem l h w n
  rw [mineL] at hi
  split at hi
  · rw [List.mem_append, List.mem_singleton] at hi
    rcases hi with hi | rfl
    · have := ih i hi; omega
    · omega
  · have := ih i hi; omega
theorem rowsOk_deal {f K : Int} {l : List S93} (hP : planV f K l) (h : Nat) (hh : h ≤ 16) : rowsOk l (rowsL h (fun w => mineL l h w l.length)) := by
 refine ⟨by rw [rowsL_len]; exact hh, fun r hr => ?_⟩
 obtain ⟨w, _, rfl⟩ := List.mem_map.1 hr
 exact ⟨Nat.le_trans (mineL_len l _ w _) hP.2.1, fun i hi => mineL_mem l h w _ i hi⟩
theorem rowsOk_rd {l : List S93} {R : List (List Int)} (hR : rowsOk l R) {h : Nat} (hh : h < R.length) : (rd_L3 R (h : Int)).length ≤ 600 ∧ ∀ i ∈ rd_L3 R (h : Int), 0 ≤ i ∧ i < (l.length : Int) := by
 have e : rd_L3 R (h : Int) = R[h] := by simp [rd_L3, List.getD_eq_getElem?_getD, List.getElem?_eq_getElem hh]
 rw [e]
 exact hR.2 _ (List.getElem_mem hh)
theorem stepAt {f K : Int} {l : List S93} (hP : planV f K l) {i : Int} (h0 : 0 ≤ i) (h1 : i < (l.length : Int)) : stepP K (rd_T93 l i).f0 (rd_T93 l i).f1 (rd_T93 l i).f2 := by
 obtain ⟨n, rfl⟩ := Int.eq_ofNat_of_zero_le h0
 exact (okS_at hP.2.2.1 (by omega)).1
def spanV (f K : Int) (l : List S93) (a : Int) : Int := if dealC f K l a then spanH l (rowsL a.toNat (fun w => mineL l a.toNat w l.length)) a.toNat K.toNat else -1
theorem rd_mid {A r : List Int} {i : Int} : rd (A ++ i :: r) (A.length : Int) = i := by
 rw [rd_eq (by simp)]
 simp

def spanAt (l : List S93) (R : List (List Int)) (h : Nat) (A : List Int) (S : MkS) : Prop := S.2 ≤ 600 * h + A.length ∧ ∀ s w : Int, S.1 s w = if 0 ≤ w ∧ w < (h : Int) then hrs l s (rd_L3 R w) else if w = (h : Int) then hrs l s A else 0
theorem iMakespan_l3 (l : List S93) (R : List (List Int)) (S : MkS) (h s : Nat) (hh : h ≤ 16) (hs : s ≤ 9) (hS : ∀ s w : Int, S.1 s w = if 0 ≤ w ∧ w < (h : Int) then hrs l s (rd_L3 R w) else 0) (sum K : Int) (T : Int)
 (key : Ev (fun k => impl_Makespan.l2 k (h : Int) S (wrap64 (sum + mostH l R (s : Int) h)) K (wrap64 ((s : Int) + 1))) T) : ∀ (d w : Nat), h - w = d → w ≤ h → Ev (fun k => impl_Makespan.l3 k (h : Int) S sum (s : Int) (mostH l R (s : Int) w) K (s : Int) (h : Int) (w : Int)) T := by
 intro d
 induction d with
 | zero =>
  intro w hd hw
  obtain rfl : w = h := by omega
  refine Ev.step (fun k => ?_) key
  simp only [impl_Makespan.l3]
  rw [if_neg (by omega)]
 | succ d ih =>
  intro w hd hw
  refine Ev.step (fun k => ?_) (ih (w + 1) (by omega) (by omega))
  simp only [impl_Makespan.l3]
  rw [if_pos (by omega), if_pos ⟨by omega, by omega, by omega, by omega⟩, hS, if_pos (by omega), wsucc (by omega)]
  rfl
theorem iMakespan_l2 (l : List S93) (R : List (List Int)) (S : MkS) (h n : Nat) (hh : h ≤ 16) (hn : n ≤ 9) (hS : ∀ s w : Int, S.1 s w = if 0 ≤ w ∧ w < (h : Int) then hrs l s (rd_L3 R w) else 0) : ∀ (d s : Nat), n - s = d → s ≤ n → Ev (fun k => impl_Makespan.l2 k (h : Int) S (spanH l R h s) (n : Int) (s : Int)) (spanH l R h n) := by
 intro d
 induction d with
 | zero =>
  intro s hd hs
  obtain rfl : s = n := by omega
  refine ev_now fun k => ?_
  simp only [impl_Makespan.l2]
  rw [if_neg (by omega)]
 | succ d ih =>
  intro s hd hs
  have key := ih (s + 1) (by omega) (by omega)
  have k1 := iMakespan_l3 l R S h s hh (by omega) hS (spanH l R h s) (n : Int) _ (by rw [wsucc (by omega)]; exact key) h 0 (by omega) (by omega)
  refine Ev.step (fun k => ?_) k1
  simp only [impl_Makespan.l2]
  rw [if_pos (by omega)]
  rfl
theorem spanAt_put {l : List S93} {R : List (List Int)} {h : Nat} {A : List Int} {S : MkS} (hA : spanAt l R h A S) (i : Int) : spanAt l R h (A ++ [i]) (mkUp S (rd_T93 l i).f0 (h : Int) (wrap64 (S.1 (rd_T93 l i).f0 (h : Int) + wrap64 ((rd_T93 l i).f2 - (rd_T93 l i).f1)))) := by
 obtain ⟨h1, h2⟩ := hA
 refine ⟨by show S.2 + 1 ≤ _; rw [List.length_append, List.length_singleton]; omega, fun s w => ?_⟩
 show (if s = (rd_T93 l i).f0 ∧ w = (h : Int) then _ else S.1 s w) = _
 by_cases c : w = (h : Int)
 · subst c
   have e : ∀ s, S.1 s (h : Int) = hrs l s A := fun s => by rw [h2, if_neg (by omega), if_pos rfl]
   rw [if_neg (show ¬ (0 ≤ (h : Int) ∧ (h : Int) < (h : Int)) by omega), if_pos rfl, hrs_snoc]
   by_cases c1 : s = (rd_T93 l i).f0
   · rw [if_pos ⟨c1, rfl⟩, if_pos c1.symm, e, ← c1]
   · rw [if_neg (fun x => c1 x.1), if_neg (fun x => c1 x.symm), e]
 · rw [if_neg (fun x => c x.2), h2, if_neg c, if_neg c]
theorem spanAt_next {l : List S93} {R : List (List Int)} {h : Nat} {S : MkS} (hl : (rd_L3 R (h : Int)).length ≤ 600) (hA : spanAt l R h (rd_L3 R (h : Int)) S) : spanAt l R (h + 1) [] S := by
 obtain ⟨h1, h2⟩ := hA
 refine ⟨by simp; omega, fun s w => ?_⟩
 rw [h2]
 by_cases c : w = (h : Int)
 · subst c
   rw [if_neg (by omega), if_pos rfl, if_pos (by omega)]
 · rw [if_neg c, hrs_nil]
   by_cases c1 : 0 ≤ w ∧ w < (h : Int)
   · rw [if_pos c1, if_pos (by omega)]
   · rw [if_neg c1, if_neg (by omega)]
     split <;> rfl
theorem iMakespan_l1 {f K : Int} {l : List S93} (hP : planV f K l) (hK : K ≤ 9) (R : List (List Int)) (hR : rowsOk l R) (h : Nat) (hh : h < R.length) (T : Int)
 (key : ∀ S, spanAt l R (h + 1) [] S → Ev (fun k => impl_Makespan.l0 k (R.length : Int) S R (R.length : Int) ((h + 1 : Nat) : Int) f K l) T) : ∀ (r A : List Int), A ++ r = rd_L3 R (h : Int) → ∀ S, spanAt l R h A S →
 Ev (fun k => impl_Makespan.l1 k (R.length : Int) S (h : Int) R (R.length : Int) (h : Int) (rd_L3 R (h : Int)) ((rd_L3 R (h : Int)).length : Int) (A.length : Int) f K l) T := by
 obtain ⟨hr1, hr2⟩ := rowsOk_rd hR hh
 have h16 := hR.1
 intro r
 induction r with
 | nil =>
  intro A e S hS
  rw [List.append_nil] at e
  rw [e] at hS
  refine Ev.step (fun k => ?_) (key S (spanAt_next hr1 hS))
  simp only [impl_Makespan.l1]
  rw [if_neg (by rw [e]; omega), wsucc (by omega)]
 | cons i r ih =>
  intro A e S hS
  have ke := ih (A ++ [i]) (by rw [List.append_assoc, List.singleton_append]; exact e) _ (spanAt_put hS i)
  have hi := hr2 i (by rw [← e]; simp)
  have hlen : A.length < (rd_L3 R (h : Int)).length := by rw [← e]; simp
  have hrd : rd (rd_L3 R (h : Int)) (A.length : Int) = i := by rw [← e]; exact rd_mid
  obtain ⟨p1, p2, p3, p4, p5⟩ := stepAt hP hi.1 hi.2
  have h2 := hS.1
  rw [List.length_append, List.length_singleton] at ke
  refine Ev.step (fun k => ?_) ke
  simp only [impl_Makespan.l1, hrd]
  rw [if_pos (by omega), if_pos (by omega), if_pos (by omega), if_pos hi.1, if_pos hi.2, if_pos (by omega), if_pos ⟨p1, by omega, by omega, by omega⟩, wsucc (by omega)]
theorem iMakespan_l0 {f : Int} {n : Nat} (hn : n ≤ 9) {l : List S93} (hP : planV f (n : Int) l) (R : List (List Int)) (hR : rowsOk l R) : ∀ (d h : Nat), R.length - h = d → h ≤ R.length → ∀ S, spanAt l R h [] S → Ev (fun k => impl_Makespan.l0 k (R.length : Int) S R (R.length : Int) (h : Int) f (n : Int) l) (spanH l R R.length n) := by
 have h16 := hR.1
 intro d
 induction d with
 | zero =>
  intro h hd hh S hS
  obtain rfl : h = R.length := by omega
  have k2 := iMakespan_l2 l R S R.length n h16 hn (fun s w => by
   rw [hS.2 s w, hrs_nil]
   by_cases c : 0 ≤ w ∧ w < (R.length : Int)
   · rw [if_pos c, if_pos c]
   · rw [if_neg c, if_neg c]; split <;> rfl) n 0 (by omega) (by omega)
  refine Ev.step (fun k => ?_) k2
  simp only [impl_Makespan.l0]
  rw [if_neg (by omega)]
  rfl
 | succ d ih =>
  intro h hd hh S hS
  have k1 := iMakespan_l1 hP (by omega) R hR h (by omega) _ (fun S hS => ih (h + 1) (by omega) (by omega) S hS) (rd_L3 R (h : Int)) [] rfl S hS
  refine Ev.step (fun k => ?_) k1
  simp only [impl_Makespan.l0]
  rw [if_pos (by omega), if_pos (by omega), if_pos (by omega)]
  rfl
theorem iMakespan_ev (f K : Int) (l : List S93) (a : Int) (hl : l.length ≤ 1048576) : Ev (fun k => impl_Makespan.f k f K l a) (spanV f K l a) := by
 have hP := iIsPlan_ev f K l hl
 have no : Ev (fun k => impl_Makespan.j0 k a true f K l) (-1) := ev_now fun k => by simp only [impl_Makespan.j0, if_true]
 simp only [impl_Makespan.f]
 refine Ev.bind hP ?_
 unfold spanV
 by_cases h : planV f K l
 · simp only [decide_eq_true h, if_true]
   by_cases h1 : a < 1
   · rw [if_neg (fun hc => by have := hc.2.1; omega)]
     simp only [if_pos h1]
     exact no
   · simp only [if_neg h1]
     by_cases h2 : a > 16
     · rw [if_neg (fun hc => by have := hc.2.2; omega), decide_eq_true h2]
       exact no
     · rw [if_pos ⟨h, by omega, by omega⟩, decide_eq_false h2]
       obtain ⟨n, rfl, hn⟩ := planV_nat2 h
       obtain ⟨m, rfl⟩ : ∃ m : Nat, a = m := ⟨a.toNat, by omega⟩
       simp only [Int.toNat_natCast]
       have hR := rowsOk_deal h m (by omega)
       have hlen := rowsL_len m (fun w => mineL l m w l.length)
       have key := iDeal_l0 f (n : Int) l h.2.1 m (by omega) (by omega) l.length 0 0 (by omega) (by omega) (by omega) (fun _ => rfl) (fun j hj => by omega)
       have e0 : rowsL m (fun w => mineL l m w 0) = List.replicate m [] := by
        apply List.ext_getElem
        · simp [rowsL]
        · intro i hi1 hi2
          simp [rowsL, mineL]
       rw [e0] at key
       have k0 := iMakespan_l0 hn h (rowsL m (fun w => mineL l m w l.length)) hR _ 0 rfl (by omega) mk0 ⟨by show 0 ≤ _; omega, fun s w => by
        show (0 : Int) = _
        rw [hrs_nil, if_neg (by omega)]
        split <;> rfl⟩
       rw [hlen] at k0
       obtain ⟨q, e1, e2⟩ := evs2 key k0
       refine Ev.step (f := fun k => (impl_deal.f k f (n : Int) l (m : Int)).bind fun t => impl_Makespan.l0 k (m : Int) mk0 t (t.length : Int) 0 f (n : Int) l) (fun k => by simp only [impl_Makespan.j0, Bool.false_eq_true, if_false]) ?_
       refine ⟨q, fun k hk => ?_⟩
       obtain ⟨j, rfl⟩ : ∃ j, k = q + j := ⟨k - q, by omega⟩
       have e1' := e1 j
       have e2' := e2 j
       simp only [impl_deal.f, Int.toNat_natCast]
       rw [if_pos (by omega), if_pos (by omega)]
       rw [show ((0 : Nat) : Int) = 0 from rfl] at e1' e2'
       rw [e1', Option.bind_some, hlen]
       exact e2'
 · rw [if_neg (fun hc => h hc.1)]
   simp only [decide_eq_false h, Bool.false_eq_true, if_false]
   exact no

theorem drawOnce1 (l : List Int) (hn : l.length ≤ 140737488355328) (i h : Int) (hi : dAt l i) (m : Int) : ∃ b i' h', spec_l01Once.f l i h m = some (b, i', h') ∧ dAt l i' := by
 obtain ⟨b1, i1, h1, e1, r1, d1⟩ := drawBelow l hn i h hi m
 exact ⟨(b1 == 0), i1, h1, by simp only [spec_l01Once.f, e1, Option.bind_some], d1⟩

theorem drawField (l : List Int) (hn : l.length ≤ 140737488355328) (i h : Int) (hi : dAt l i) : ∃ b i' h', spec_l01DrawField.f l i h = some (b, i', h') ∧ dAt l i' := by
 obtain ⟨b1, i1, h1, e1, d1⟩ := drawOnce1 l hn i h hi 20
 obtain ⟨b2, i2, h2, e2, r2, d2⟩ := drawPickInt l hn i1 h1 d1 [(-1), 9, 100] (by simp)
 obtain ⟨b3, i3, h3, e3, r3, d3⟩ := drawBelow l hn i1 h1 d1 9
 cases b1 with
 | true => exact ⟨b2, i2, h2, by simp only [spec_l01DrawField.f, e1, e2, Option.bind_some, if_true], d2⟩
 | false => exact ⟨b3, i3, h3, by simp only [spec_l01DrawField.f, e1, e3, Option.bind_some, Bool.false_eq_true, if_false], d3⟩

def cst (l : List S93) (i : Nat) : Int := (rd_T93 l (i : Int)).f2 - (rd_T93 l (i : Int)).f1
theorem cst_range {f : Int} {n : Nat} (hn : n ≤ 9) {l : List S93} (hP : planV f (n : Int) l) {i : Nat} (hi : i < l.length) : 0 < cst l i ∧ cst l i ≤ 256 ∧ 0 ≤ (rd_T93 l (i : Int)).f0 ∧ (rd_T93 l (i : Int)).f0 < n := by
 have h := stepAt hP (i := (i : Int)) (by omega) (by omega)
 obtain ⟨lv, fr, en, e1, e2, e3, h1, h2, h3, h4⟩ := step_nat hn h
 unfold cst
 rw [e1, e2, e3]
 omega
theorem wrapc {x : Int} (h0 : 0 ≤ x) (h1 : x ≤ 1000000000) : wrap64 x = x := w64 (by omega) (by omega)
def partL (l : List S93) (h : Nat) (s : Int) (w : Nat) (i : Nat) : Int := if (rd_T93 l (i : Int)).f0 = s then (if w = posL l i % h then cst l i else 0) else 0
theorem hrs_sum {f : Int} {n : Nat} (hn : n ≤ 9) {l : List S93} (hP : planV f (n : Int) l) (h : Nat) (s : Int) (w : Nat) : ∀ m, m ≤ l.length → hrs l s (mineL l h w m) = sm m (partL l h s w) ∧ 0 ≤ sm m (partL l h s w) ∧ sm m (partL l h s w) ≤ 256 * m
 | 0, _ => by simp [mineL, hrs, sm]
 | m + 1, hm => by
  obtain ⟨h1, h2, h3⟩ := hrs_sum hn hP h s w m (by omega)
  obtain ⟨c1, c2, c3, c4⟩ := cst_range hn hP (i := m) (by omega)
  have hl := hP.2.1
  rw [mineL, sm]
  by_cases c : posL l m % h = w
  · rw [if_pos c, hrs_snoc]
    by_cases cs : (rd_T93 l (m : Int)).f0 = s
    · have e : partL l h s w m = cst l m := by unfold partL; rw [if_pos cs, if_pos c.symm]
      rw [if_pos cs, e, h1]
      have e2 : wrap64 ((rd_T93 l (m : Int)).f2 - (rd_T93 l (m : Int)).f1) = cst l m := wrapc (by unfold cst at c1; omega) (by unfold cst at c2; omega)
      rw [e2, wrapc (by omega) (by omega)]
      exact ⟨rfl, by omega, by omega⟩
    · have e : partL l h s w m = 0 := by unfold partL; rw [if_neg cs]
      rw [if_neg cs, e, h1]
      exact ⟨by omega, by omega, by omega⟩
  · have e : partL l h s w m = 0 := by
     unfold partL
     rw [if_neg (show ¬ w = posL l m % h from fun x => c x.symm)]
     split <;> rfl
    rw [if_neg c, e, h1]
    exact ⟨by omega, by omega, by omega⟩
def levelL (l : List S93) (s : Int) (i : Nat) : Int := if (rd_T93 l (i : Int)).f0 = s then cst l i else 0
theorem part_sum (l : List S93) (h : Nat) (hh : 0 < h) (s : Int) (i : Nat) : sm h (fun w => partL l h s w i) = levelL l s i := by
 unfold partL levelL
 by_cases c : (rd_T93 l (i : Int)).f0 = s
 · simp only [if_pos c]
   exact sm_one h (posL l i % h) (Nat.mod_lt _ hh) (fun _ => cst l i)
 · simp only [if_neg c]
   exact sm_zero h
theorem level_sum {f : Int} {n : Nat} (hn : n ≤ 9) {l : List S93} (hP : planV f (n : Int) l) {i : Nat} (hi : i < l.length) : sm n (fun s => levelL l (s : Int) i) = cst l i := by
 obtain ⟨c1, c2, c3, c4⟩ := cst_range hn hP hi
 have e : ∀ s : Nat, levelL l (s : Int) i = if s = (rd_T93 l (i : Int)).f0.toNat then cst l i else 0 := fun s => by
  unfold levelL
  by_cases c : (rd_T93 l (i : Int)).f0 = (s : Int)
  · rw [if_pos c, if_pos (by omega)]
  · rw [if_neg c, if_neg (by omega)]
 rw [sm_congr (fun s _ => e s)]
 exact sm_one n _ (by omega) (fun _ => cst l i)
theorem pts_snoc (r : List S93) (s : S93) : (pts (r ++ [s])).length = (pts r).length + (s.f2 - s.f1).toNat := by
 induction r with
 | nil => simp [pts, ptsOf, rngP_len]
 | cons x r ih => rw [List.cons_append, pts, List.length_append, ih, pts, List.length_append]; omega
theorem cst_sum {f : Int} {n : Nat} (hn : n ≤ 9) {l : List S93} (hP : planV f (n : Int) l) : ∀ m, m ≤ l.length → sm m (cst l) = ((pts (l.take m)).length : Int)
 | 0, _ => by simp [sm, pts]
 | m + 1, hm => by
  have e := cst_sum hn hP m (by omega)
  obtain ⟨c1, _⟩ := cst_range hn hP (i := m) (by omega)
  rw [sm, e, List.take_succ_eq_append_getElem (by omega), pts_snoc, ← rdStep (show m < l.length by omega)]
  unfold cst at c1 ⊢
  omega
theorem rowsL_at {h x : Nat} (g : Nat → List Int) (hx : x < h) : rd_L3 (rowsL h g) (x : Int) = g x := rowsL_rd g hx
theorem mostH_eq {f : Int} {n : Nat} (hn : n ≤ 9) {l : List S93} (hP : planV f (n : Int) l) (h : Nat) (s : Int) : ∀ w, w ≤ h → mostH l (rowsL h (fun w => mineL l h w l.length)) s w = mostG (fun w => sm l.length (partL l h s w)) w
 | 0, _ => rfl
 | w + 1, hw => by
  rw [mostH, mostG, mostH_eq hn hP h s w (by omega), rowsL_rd _ (show w < h by omega), (hrs_sum hn hP h s w l.length (Nat.le_refl _)).1]
theorem most_bound {f : Int} {n : Nat} (hn : n ≤ 9) {l : List S93} (hP : planV f (n : Int) l) (h : Nat) (hh : 0 < h) (s : Int) : 0 ≤ mostG (fun w => sm l.length (partL l h s w)) h ∧ mostG (fun w => sm l.length (partL l h s w)) h ≤ sm l.length (levelL l s) ∧ sm l.length (levelL l s) ≤ h * mostG (fun w => sm l.length (partL l h s w)) h := by
 obtain ⟨h1, h2, h3, _⟩ := mostG_bound (g := fun w => sm l.length (partL l h s w)) h (fun w _ => (hrs_sum hn hP h s w l.length (Nat.le_refl _)).2.1)
 rw [sm_swap l.length (fun w i => partL l h s w i) h, sm_congr (fun i _ => part_sum l h hh s i)] at h2 h3
 exact ⟨h1, h2, h3⟩
theorem all_levels {f : Int} {n : Nat} (hn : n ≤ 9) {l : List S93} (hP : planV f (n : Int) l) : sm n (fun s => sm l.length (levelL l (s : Int))) = ((pts l).length : Int) := by
 rw [sm_swap l.length (fun s i => levelL l (s : Int) i) n, sm_congr (fun i hi => level_sum hn hP hi), cst_sum hn hP l.length (Nat.le_refl _), List.take_length]
theorem sm_le_part {g : Nat → Int} : ∀ n m, (∀ i, i < n → 0 ≤ g i) → m ≤ n → sm m g ≤ sm n g := by
 intro n
 induction n with
 | zero =>
  intro m _ hm
  obtain rfl : m = 0 := by omega
  exact Int.le_refl _
 | succ n ih =>
  intro m h hm
  by_cases c : m = n + 1
  · rw [c]; exact Int.le_refl _
  · have := ih m (fun i hi => h i (by omega)) (by omega)
    have := h n (by omega)
    rw [sm]
    omega
theorem spanH_eq {f : Int} {n : Nat} (hn : n ≤ 9) {l : List S93} (hP : planV f (n : Int) l) (h : Nat) (hh : 0 < h) (hc : (pts l).length ≤ 100000) : ∀ s, s ≤ n → spanH l (rowsL h (fun w => mineL l h w l.length)) h s = sm s (fun s => mostG (fun w => sm l.length (partL l h (s : Int) w)) h)
 | 0, _ => rfl
 | s + 1, hs => by
  rw [spanH, sm, spanH_eq hn hP h hh hc s (by omega), mostH_eq hn hP h (s : Int) h (Nat.le_refl _)]
  have h0 : ∀ i, i < n → 0 ≤ mostG (fun w => sm l.length (partL l h (i : Int) w)) h := fun i _ => (most_bound hn hP h hh (i : Int)).1
  have h1 := sm_le_part (g := fun s : Nat => mostG (fun w => sm l.length (partL l h (s : Int) w)) h) n (s + 1) h0 hs
  have h2 := sm_le_part (g := fun s : Nat => mostG (fun w => sm l.length (partL l h (s : Int) w)) h) n 0 h0 (by omega)
  have h3 := sm_le_part (g := fun s : Nat => mostG (fun w => sm l.length (partL l h (s : Int) w)) h) (s + 1) 0 (fun i hi => h0 i (by omega)) (by omega)
  have h4 := sm_mono (g := fun s : Nat => mostG (fun w => sm l.length (partL l h (s : Int) w)) h) n (fun i _ => (most_bound hn hP h hh (i : Int)).2.1)
  rw [all_levels hn hP] at h4
  rw [sm] at h1 h3
  rw [show sm 0 (fun s : Nat => mostG (fun w => sm l.length (partL l h (s : Int) w)) h) = 0 from rfl] at h3
  exact wrapc h3 (by omega)
theorem span_cost {f : Int} {n : Nat} (hn : n ≤ 9) {l : List S93} (hP : planV f (n : Int) l) (h : Nat) (hh : 0 < h) (hc : (pts l).length ≤ 100000) : 0 ≤ spanH l (rowsL h (fun w => mineL l h w l.length)) h n ∧ spanH l (rowsL h (fun w => mineL l h w l.length)) h n ≤ ((pts l).length : Int) ∧ ((pts l).length : Int) ≤ h * spanH l (rowsL h (fun w => mineL l h w l.length)) h n := by
 rw [spanH_eq hn hP h hh hc n (Nat.le_refl _), ← all_levels hn hP]
 refine ⟨?_, sm_mono n (fun i _ => (most_bound hn hP h hh (i : Int)).2.1), ?_⟩
 · exact sm_le_part (g := fun s : Nat => mostG (fun w => sm l.length (partL l h (s : Int) w)) h) n 0 (fun i _ => (most_bound hn hP h hh (i : Int)).1) (by omega)
 · rw [← sm_mul]
   exact sm_mono n (fun i _ => (most_bound hn hP h hh (i : Int)).2.2)

theorem mineL_count (l : List S93) (h w i : Nat) : ∀ m, (mineL l h w m).count (i : Int) = if i < m ∧ posL l i % h = w then 1 else 0
 | 0 => by simp [mineL]
 | m + 1 => by
  have ih := mineL_count l h w i m
  rw [mineL]
  by_cases c : posL l m % h = w
  · rw [if_pos c, List.count_append, ih]
    by_cases e : i = m
    · subst e
      rw [if_neg (by omega), if_pos ⟨by omega, c⟩]; simp
    · have hb : ((m : Int) == (i : Int)) = false := by simp; omega
      simp only [List.count_singleton, hb, Bool.false_eq_true, if_false, Nat.add_zero]
      by_cases c2 : i < m ∧ posL l i % h = w
      · rw [if_pos c2, if_pos ⟨by omega, c2.2⟩]
      · rw [if_neg c2, if_neg (fun x => c2 ⟨by omega, x.2⟩)]
  · rw [if_neg c, ih]
    by_cases c2 : i < m ∧ posL l i % h = w
    · rw [if_pos c2, if_pos ⟨by omega, c2.2⟩]
    · rw [if_neg c2, if_neg (fun x => c2 ⟨by
       have := x.1
       by_cases e : i = m
       · subst e; exact absurd x.2 c
       · omega, x.2⟩)]
theorem mineL_rise (l : List S93) (h w : Nat) : ∀ m, (mineL l h w m).Pairwise (· < ·)
 | 0 => by simp [mineL]
 | m + 1 => by
  have ih := mineL_rise l h w m
  rw [mineL]
  split
  · rw [List.pairwise_append]
    exact ⟨ih, by simp, fun a ha b hb => by rw [List.mem_singleton] at hb; subst hb; exact (mineL_mem l h w m a ha).2⟩
  · exact ih
def metV (l : List S93) (h w : Nat) (A : List Int) (M : List Int) : Prop := M.length = l.length ∧ ∀ i : Nat, i < l.length → rd M (i : Int) = (if posL l i % h < w then 1 else 0) + (A.count (i : Int) : Int)
theorem metV_put {l : List S93} {h w : Nat} {A M : List Int} (hM : metV l h w A M) {x : Nat} (hx : x < l.length) : metV l h w (A ++ [(x : Int)]) (M.set x (rd M (x : Int) + 1)) := by
 obtain ⟨h1, h2⟩ := hM
 refine ⟨by rw [List.length_set]; exact h1, fun i hi => ?_⟩
 rw [rd_eq (by rw [List.length_set]; omega), List.getElem_set, List.count_append, List.count_singleton]
 have h3 := h2 i hi
 by_cases c : x = i
 · subst c
   rw [if_pos rfl, h3]
   simp
   omega
 · rw [if_neg c, ← rd_eq (by omega), h3]
   have : ((x : Int) == (i : Int)) = false := by simp; omega
   rw [this]
   simp
theorem metV_next {l : List S93} {h w : Nat} {M : List Int} (hM : metV l h w (mineL l h w l.length) M) : metV l h (w + 1) [] M := by
 obtain ⟨h1, h2⟩ := hM
 refine ⟨h1, fun i hi => ?_⟩
 rw [h2 i hi, mineL_count]
 by_cases c1 : posL l i % h < w
 · rw [if_pos c1, if_neg (by omega), if_pos (by omega)]; simp
 · by_cases c2 : posL l i % h = w
   · rw [if_neg c1, if_pos ⟨hi, c2⟩, if_pos (by omega)]; simp
   · rw [if_neg c1, if_neg (fun x => c2 x.2), if_neg (by omega)]; simp

theorem lawDealt_l2 {f K : Int} {l : List S93} (hl : l.length ≤ 600) (h w : Nat) (hh : h ≤ 16) (hw : w < h) (T : Bool)
 (key : ∀ M, metV l h (w + 1) [] M → Ev (fun k => laws_FnDealt.l1 k (h : Int) (rowsL h (fun w => mineL l h w l.length)) M ((w + 1 : Nat) : Int) f K l) T) : ∀ (r A : List Int), A ++ r = mineL l h w l.length → ∀ M, metV l h w A M →
 Ev (fun k => laws_FnDealt.l2 k (h : Int) (rowsL h (fun w => mineL l h w l.length)) M (w : Int) (A.length : Int) f K l) T := by
 have hlen := rowsL_len h (fun w => mineL l h w l.length)
 have hrow := rowsL_rd (fun w => mineL l h w l.length) hw
 have hm := mineL_len l h w l.length
 intro r
 induction r with
 | nil =>
  intro A e M hM
  rw [List.append_nil] at e
  rw [e] at hM
  refine Ev.step (fun k => ?_) (key M (metV_next hM))
  simp only [laws_FnDealt.l2, hrow]
  rw [if_pos (by omega), if_pos (by omega), if_neg (by rw [e]; omega), wsucc (by omega)]
 | cons i r ih =>
  intro A e M hM
  have hi := mineL_mem l h w l.length i (by rw [← e]; simp)
  obtain ⟨x, rfl⟩ := Int.eq_ofNat_of_zero_le hi.1
  have hx : x < l.length := by omega
  have ke := ih (A ++ [(x : Int)]) (by rw [List.append_assoc, List.singleton_append]; exact e) _ (metV_put hM hx)
  have hA : A.length < (mineL l h w l.length).length := by rw [← e]; simp
  have hrd : rd (mineL l h w l.length) (A.length : Int) = (x : Int) := by rw [← e]; exact rd_mid
  have h1 := hM.1
  have hv := hM.2 x hx
  have hc : A.count (x : Int) ≤ A.length := List.count_le_length
  have hw1 : wrap64 (rd M (x : Int) + 1) = rd M (x : Int) + 1 := by
   refine wrapc ?_ ?_
   · rw [hv]; split <;> omega
   · rw [hv]; split <;> omega
  rw [List.length_append, List.length_singleton] at ke
  refine Ev.step (fun k => ?_) ke
  simp only [laws_FnDealt.l2, hrow, hrd]
  rw [if_pos (by omega), if_pos (by omega), if_pos (by omega), if_pos (by omega), if_neg (by omega), if_neg (by omega), hw1, Int.toNat_natCast, wsucc (by omega)]
  by_cases c : A = []
  · subst c
    rw [if_neg (by simp), if_pos (by omega), if_pos (by omega)]
  · have hp : 0 < A.length := List.length_pos_iff.2 c
    obtain ⟨q, hq⟩ : ∃ q, A.length = q + 1 := ⟨A.length - 1, by omega⟩
    have e1 : wrap64 ((A.length : Int) - 1) = (q : Int) := by rw [hq]; exact w64n (a := q) (by omega) (by omega)
    have hr := mineL_rise l h w l.length
    have hlt : rd (mineL l h w l.length) (q : Int) < (x : Int) := by
     have hr2 := hr
     rw [← e] at hr2 ⊢
     rw [rd_eq (by simp; omega), List.getElem_append_left (by omega)]
     exact (List.pairwise_append.1 hr2).2.2 _ (List.getElem_mem _) _ (List.mem_cons_self ..)
    rw [if_pos (by omega), e1, if_pos (by omega), if_pos (by omega), if_neg (by omega), if_pos (by omega), if_pos (by omega)]
theorem lawDealt_l1 {f K : Int} {l : List S93} (hl : l.length ≤ 600) (h : Nat) (hh : h ≤ 16) (T : Bool)
 (key : ∀ M, metV l h h [] M → Ev (fun k => laws_FnDealt.l3 k (h : Int) M 0 f K l) T) : ∀ (d w : Nat), h - w = d → w ≤ h → ∀ M, metV l h w [] M → Ev (fun k => laws_FnDealt.l1 k (h : Int) (rowsL h (fun w => mineL l h w l.length)) M (w : Int) f K l) T := by
 intro d
 induction d with
 | zero =>
  intro w hd hw M hM
  obtain rfl : w = h := by omega
  refine Ev.step (fun k => ?_) (key M hM)
  simp only [laws_FnDealt.l1]
  rw [if_neg (by omega)]
 | succ d ih =>
  intro w hd hw M hM
  have k2 := lawDealt_l2 (f := f) (K := K) hl h w hh (by omega) T (fun M hM => ih (w + 1) (by omega) (by omega) M hM) (mineL l h w l.length) [] rfl M hM
  refine Ev.step (fun k => ?_) k2
  simp only [laws_FnDealt.l1]
  rw [if_pos (by omega)]
  rfl
theorem lawDealt_l3 {f K : Int} {l : List S93} (hl : l.length ≤ 600) (h : Nat) (M : List Int) (hM : M.length = l.length) (h1 : ∀ i : Nat, i < l.length → rd M (i : Int) = 1) (T : Bool)
 (key : Ev (fun k => (spec_PlanCost.f k f K l).bind fun t337 => ((laws_cpPlan.f k f K l).bind fun bt338 => ((impl_Makespan.f k bt338.1 bt338.2.1 bt338.2.2 (h : Int)).bind fun t343 => ((laws_cpPlan.f k f K l).bind fun bt344 => ((impl_Makespan.f k bt344.1 bt344.2.1 bt344.2.2 1).bind fun t349 => (if t349 = t337 then (if t343 ≤ t337 then (some (decide ((wrap64 (t343 * (h : Int))) ≥ t337))) else (some false)) else (some false))))))) T) : ∀ (d i : Nat), l.length - i = d → i ≤ l.length → Ev (fun k => laws_FnDealt.l3 k (h : Int) M (i : Int) f K l) T := by
 intro d
 induction d with
 | zero =>
  intro i hd hi
  obtain rfl : i = l.length := by omega
  refine Ev.step (fun k => ?_) key
  simp only [laws_FnDealt.l3]
  rw [if_neg (by omega)]
 | succ d ih =>
  intro i hd hi
  refine Ev.step (fun k => ?_) (ih (i + 1) (by omega) (by omega))
  simp only [laws_FnDealt.l3]
  rw [if_pos (by omega), if_pos (by omega), if_pos (h1 i (by omega)), wsucc (by omega)]
theorem lawDealt_l0 {f K : Int} {l : List S93} (hl : l.length ≤ 600) (h : Int) (R : List (List Int)) (T : Bool)
 (key : Ev (fun k => laws_FnDealt.l1 k h R (List.replicate l.length 0) 0 f K l) T) : ∀ (d i : Nat), l.length - i = d → i ≤ l.length → Ev (fun k => laws_FnDealt.l0 k h R (List.replicate i 0) (i : Int) f K l) T := by
 intro d
 induction d with
 | zero =>
  intro i hd hi
  obtain rfl : i = l.length := by omega
  refine Ev.step (fun k => ?_) key
  simp only [laws_FnDealt.l0]
  rw [if_neg (by omega)]
 | succ d ih =>
  intro i hd hi
  have ke := ih (i + 1) (by omega) (by omega)
  rw [List.replicate_succ'] at ke
  refine Ev.step (fun k => ?_) ke
  simp only [laws_FnDealt.l0]
  rw [if_pos (by omega), if_pos (by rw [List.length_replicate]; omega), wsucc (by omega)]

theorem w64_add (a b : Nat) (h : a + b ≤ 9223372036854775807) : wrap64 ((a : Int) + (b : Int)) = ((a + b : Nat) : Int) := w64n (by omega) h
def planFin (l : List Int) (g : Nat → Option (Int × Int × List S93 × Int × Int)) : Prop := ∃ F K out i h, Ev g (F, K, out, i, h) ∧ out.length ≤ 600 ∧ dAt l i
theorem planFin.step {l : List Int} {g g' : Nat → Option (Int × Int × List S93 × Int × Int)} (h : ∀ k, g (k + 1) = g' k) (hg : planFin l g') : planFin l g := by
 obtain ⟨F, K, out, i, x, e, h1, h2⟩ := hg
 exact ⟨F, K, out, i, x, Ev.step h e, h1, h2⟩
theorem planFin.now {l : List Int} {g : Nat → Option (Int × Int × List S93 × Int × Int)} {F K : Int} {out : List S93} {i h : Int} (hg : ∀ k, g (k + 1) = some (F, K, out, i, h)) (h1 : out.length ≤ 600) (h2 : dAt l i) : planFin l g :=
 ⟨F, K, out, i, h, ev_now hg, h1, h2⟩
theorem drawPlan_end (l : List Int) (hn : l.length ≤ 140737488355328) (x6 x9 F K : Int) (hx : ¬ x9 < x6) (acc : List S93) (ha : acc.length ≤ 500) (i h : Int) (hi : dAt l i) : planFin l (fun k => spec_l09DrawPlan.l0 k x6 x9 l i h F K acc) := by
 obtain ⟨b1, i1, h1, e1, d1⟩ := drawOnce1 l hn i h hi 10
 cases b1 with
 | false =>
  refine planFin.now (F := F) (K := K) (out := acc) (i := i1) (h := h1) (fun k => ?_) (by omega) d1
  simp only [spec_l09DrawPlan.l0, e1, Option.bind_some]
  rw [if_neg hx, if_neg (by simp)]
 | true =>
  obtain ⟨b2, i2, h2, e2, r2, d2⟩ := drawBelow l hn i1 h1 d1 5
  by_cases c0 : b2 = 0
  · obtain ⟨b3, i3, h3, e3, d3⟩ := drawField l hn i2 h2 d2
    refine planFin.now (F := b3) (K := K) (out := acc) (i := i3) (h := h3) (fun k => ?_) (by omega) d3
    simp only [spec_l09DrawPlan.l0, e1, e2, e3, Option.bind_some]
    rw [if_neg hx, if_pos trivial, if_pos c0]
  · by_cases c1 : b2 = 1
    · obtain ⟨b3, i3, h3, e3, r3, d3⟩ := drawPickInt l hn i2 h2 d2 [(-1), 0, 10, wrap64 (x6 + 1)] (by simp)
      refine planFin.now (F := F) (K := b3) (out := acc) (i := i3) (h := h3) (fun k => ?_) (by omega) d3
      simp only [spec_l09DrawPlan.l0, e1, e2, e3, Option.bind_some]
      rw [if_neg hx, if_pos trivial, if_neg c0, if_pos c1]
    · by_cases c2 : b2 = 2
      · by_cases hp : (acc.length : Int) > 0
        · obtain ⟨b3, i3, h3, e3, r3, d3⟩ := drawBelow l hn i2 h2 d2 (acc.length : Int)
          obtain ⟨b4, i4, h4, e4, r4, d4⟩ := drawPickInt l hn i3 h3 d3 [(-1), 1] (by simp)
          refine planFin.now (F := F) (K := K) (out := acc.set b3.toNat (⟨(rd_T93 acc b3).f0, (rd_T93 acc b3).f1, wrap64 ((rd_T93 acc b3).f2 + b4)⟩ : S93)) (i := i4) (h := h4) (fun k => ?_) (by rw [List.length_set]; omega) d4
          · simp only [spec_l09DrawPlan.l0, e1, e2, e3, e4, Option.bind_some]
            rw [if_neg hx, if_pos trivial, if_neg c0, if_neg c1, if_pos c2, if_pos hp, if_pos r3.1, if_pos (by omega)]
        · refine planFin.now (F := F) (K := K) (out := acc) (i := i2) (h := h2) (fun k => ?_) (by omega) d2
          simp only [spec_l09DrawPlan.l0, e1, e2, Option.bind_some]
          rw [if_neg hx, if_pos trivial, if_neg c0, if_neg c1, if_pos c2, if_neg hp]
      · by_cases c3 : b2 = 3
        · by_cases hp : (acc.length : Int) > 0
          · refine planFin.now (F := F) (K := K) (out := acc.drop (1 : Int).toNat) (i := i2) (h := h2) (fun k => ?_) (by rw [List.length_drop]; omega) d2
            simp only [spec_l09DrawPlan.l0, e1, e2, Option.bind_some]
            rw [if_neg hx, if_pos trivial, if_neg c0, if_neg c1, if_neg c2, if_pos c3, if_pos hp, if_pos (by omega)]
          · refine planFin.now (F := F) (K := K) (out := acc) (i := i2) (h := h2) (fun k => ?_) (by omega) d2
            simp only [spec_l09DrawPlan.l0, e1, e2, Option.bind_some]
            rw [if_neg hx, if_pos trivial, if_neg c0, if_neg c1, if_neg c2, if_pos c3, if_neg hp]
        · by_cases c4 : b2 = 4
          · refine planFin.now (F := F) (K := K) (out := acc ++ [(⟨wrap64 (x6 - 1), 0, 1⟩ : S93)]) (i := i2) (h := h2) (fun k => ?_) (by rw [List.length_append, List.length_singleton]; omega) d2
            simp only [spec_l09DrawPlan.l0, e1, e2, Option.bind_some]
            rw [if_neg hx, if_pos trivial, if_neg c0, if_neg c1, if_neg c2, if_neg c3, if_pos c4, if_pos (by omega)]
          · refine planFin.now (F := F) (K := K) (out := acc) (i := i2) (h := h2) (fun k => ?_) (by omega) d2
            simp only [spec_l09DrawPlan.l0, e1, e2, Option.bind_some]
            rw [if_neg hx, if_pos trivial, if_neg c0, if_neg c1, if_neg c2, if_neg c3, if_neg c4]
theorem drawPlan_l3 (l : List Int) (hn : l.length ≤ 140737488355328) (x6 F K : Int) (x9 : Nat) (hx9 : x9 ≤ 6) (runs : List S93) (hr : runs.length ≤ 40) (i h : Int)
 (hrec : ∀ acc : List S93, acc.length ≤ 40 * (x9 + 1) → planFin l (fun k => spec_l09DrawPlan.l0 k x6 ((x9 + 1 : Nat) : Int) l i h F K acc)) : ∀ (d j : Nat) (acc : List S93), runs.length - j = d → j ≤ runs.length → acc.length ≤ 40 * x9 + j →
 planFin l (fun k => spec_l09DrawPlan.l3 k x6 (x9 : Int) runs (j : Int) l i h F K acc) := by
 intro d
 induction d with
 | zero =>
  intro j acc hd hj ha
  refine planFin.step (fun k => ?_) (hrec acc (by omega))
  simp only [spec_l09DrawPlan.l3]
  rw [if_neg (by omega), wsucc (by omega)]
 | succ d ih =>
  intro j acc hd hj ha
  refine planFin.step (fun k => ?_) (ih (j + 1) (acc ++ [rd_T93 runs (j : Int)]) (by omega) (by omega) (by rw [List.length_append, List.length_singleton]; omega))
  simp only [spec_l09DrawPlan.l3]
  rw [if_pos (by omega), if_pos (by omega), if_pos (by omega), wsucc (by omega)]
theorem drawPlan_l2 (l : List Int) (hn : l.length ≤ 140737488355328) (x6 F K : Int) (x9 : Nat) (hx9 : x9 ≤ 6) (acc : List S93) (ha : acc.length ≤ 40 * x9)
 (hrec : ∀ (i h : Int) (acc : List S93), dAt l i → acc.length ≤ 40 * (x9 + 1) → planFin l (fun k => spec_l09DrawPlan.l0 k x6 ((x9 + 1 : Nat) : Int) l i h F K acc)) : ∀ (d j : Nat) (runs : List S93) (i h : Int), runs.length - j = d → j ≤ runs.length → runs.length ≤ 40 → dAt l i →
 planFin l (fun k => spec_l09DrawPlan.l2 k x6 (x9 : Int) runs (j : Int) l i h F K acc) := by
 intro d
 induction d with
 | zero =>
  intro j runs i h hd hj hr hi
  refine planFin.step (fun k => ?_) (drawPlan_l3 l hn x6 F K x9 hx9 runs hr i h (fun acc hacc => hrec i h acc hi hacc) runs.length 0 acc (by omega) (by omega) (by omega))
  simp only [spec_l09DrawPlan.l2]
  rw [if_neg (by omega)]
  rfl
 | succ d ih =>
  intro j runs i h hd hj hr hi
  obtain ⟨b1, i1, h1, e1, r1, d1⟩ := drawBelow l hn i h hi (runs.length : Int)
  refine planFin.step (fun k => ?_) (ih (j + 1) ((runs.set j (rd_T93 runs b1)).set b1.toNat (rd_T93 runs (j : Int))) i1 h1 (by rw [List.length_set, List.length_set]; omega) (by rw [List.length_set, List.length_set]; omega) (by rw [List.length_set, List.length_set]; omega) d1)
  simp only [spec_l09DrawPlan.l2, e1, Option.bind_some]
  rw [if_pos (by omega), if_pos (by omega), if_pos r1.1, if_pos (by omega), wsucc (by omega), Int.toNat_natCast]
theorem drawPlan_l1 (l : List Int) (hn : l.length ≤ 140737488355328) (x6 F K : Int) (x9 : Nat) (hx9 : x9 ≤ 6) (acc : List S93) (ha : acc.length ≤ 40 * x9) (m : Nat) (hm : m ≤ 32)
 (hrec : ∀ (i h : Int) (acc : List S93), dAt l i → acc.length ≤ 40 * (x9 + 1) → planFin l (fun k => spec_l09DrawPlan.l0 k x6 ((x9 + 1 : Nat) : Int) l i h F K acc)) : ∀ (d j : Nat) (runs : List S93) (i h : Int), m - j ≤ d → j ≤ m → runs.length ≤ j → dAt l i →
 planFin l (fun k => spec_l09DrawPlan.l1 k x6 (x9 : Int) (m : Int) runs (j : Int) l i h F K acc) := by
 have hend : ∀ (j : Nat) (runs : List S93) (i h : Int), ¬ j < m → runs.length ≤ 32 → dAt l i → planFin l (fun k => spec_l09DrawPlan.l1 k x6 (x9 : Int) (m : Int) runs (j : Int) l i h F K acc) := by
  intro j runs i h hj hr hi
  refine planFin.step (fun k => ?_) (drawPlan_l2 l hn x6 F K x9 hx9 acc ha hrec runs.length 0 runs i h (by omega) (by omega) (by omega) hi)
  simp only [spec_l09DrawPlan.l1]
  rw [if_neg (by omega)]
  rfl
 intro d
 induction d with
 | zero =>
  intro j runs i h hd hj hr hi
  exact hend j runs i h (by omega) (by omega) hi
 | succ d ih =>
  intro j runs i h hd hj hr hi
  by_cases hjm : j < m
  · obtain ⟨b1, i1, h1, e1, r1, d1⟩ := drawBelow l hn i h hi (m : Int)
    obtain ⟨b, hb⟩ : ∃ b : Nat, Aside0 (b1 = (b : Int)) := ⟨b1.toNat, ⟨by omega⟩⟩
    have w1 := Aside0.mk (show wrap64 ((j : Int) + 1) = ((j + 1 : Nat) : Int) from wsucc (by omega))
    have hbm : b ≤ m := by have := hb.out; omega
    have w2 := Aside0.mk (w64_add (j + 1) b (by omega))
    by_cases hgt : ((j + 1 + b : Nat) : Int) > (m : Int)
    · refine planFin.step (fun k => ?_) (ih m (runs ++ [(⟨(x9 : Int), (j : Int), (m : Int)⟩ : S93)]) i1 h1 (by omega) (by omega) (by rw [List.length_append, List.length_singleton]; omega) d1)
      obtain ⟨J, hJ⟩ : ∃ J : Int, J = (j : Int) := ⟨_, rfl⟩
      rw [← hJ] at w1 ⊢
      simp only [spec_l09DrawPlan.l1, e1, Option.bind_some]
      rw [if_pos (by omega), w1.out, hb.out, w2.out, if_pos hgt, if_pos (by omega)]
    · refine planFin.step (fun k => ?_) (ih (j + 1 + b) (runs ++ [(⟨(x9 : Int), (j : Int), ((j + 1 + b : Nat) : Int)⟩ : S93)]) i1 h1 (by omega) (by omega) (by rw [List.length_append, List.length_singleton]; omega) d1)
      obtain ⟨J, hJ⟩ : ∃ J : Int, J = (j : Int) := ⟨_, rfl⟩
      rw [← hJ] at w1 ⊢
      simp only [spec_l09DrawPlan.l1, e1, Option.bind_some]
      rw [if_pos (by omega), w1.out, hb.out, w2.out, if_neg hgt, if_pos (by omega)]
  · exact hend j runs i h hjm (by omega) hi
theorem half_shl {q : Nat} (hq : q ≤ 6) : ∃ m : Nat, m ≤ 32 ∧ wrap64 (Int.tdiv (shl .i64 1 (IntKind.u64.wrap (q : Int))) 2) = (m : Int) := by
 rcases (show q = 0 ∨ q = 1 ∨ q = 2 ∨ q = 3 ∨ q = 4 ∨ q = 5 ∨ q = 6 by omega) with rfl | rfl | rfl | rfl | rfl | rfl | rfl
 · exact ⟨0, by omega, by decide +kernel⟩
 · exact ⟨1, by omega, by decide +kernel⟩
 · exact ⟨2, by omega, by decide +kernel⟩
 · exact ⟨4, by omega, by decide +kernel⟩
 · exact ⟨8, by omega, by decide +kernel⟩
 · exact ⟨16, by omega, by decide +kernel⟩
 · exact ⟨32, by omega, by decide +kernel⟩
theorem drawPlan_l0 (l : List Int) (hn : l.length ≤ 140737488355328) (F K x6 : Int) (hx6 : x6 ≤ 6) : ∀ (d x9 : Nat) (acc : List S93) (i h : Int), (x6 - x9).toNat = d → x9 ≤ 6 → acc.length ≤ 40 * x9 → dAt l i →
 planFin l (fun k => spec_l09DrawPlan.l0 k x6 (x9 : Int) l i h F K acc) := by
 intro d
 induction d with
 | zero =>
  intro x9 acc i h hd hx ha hi
  exact drawPlan_end l hn x6 x9 F K (by omega) acc (by omega) i h hi
 | succ d ih =>
  intro x9 acc i h hd hx ha hi
  obtain ⟨q, rfl⟩ : ∃ q : Nat, x6 = (q : Int) := ⟨x6.toNat, by omega⟩
  obtain ⟨m, hm, em⟩ := half_shl (q := q) (by omega)
  have hs := (shl_pow (i := q) (by omega)).2.2
  refine planFin.step (fun k => ?_) (drawPlan_l1 l hn (q : Int) F K x9 hx acc ha m hm (fun i h acc hi hacc => ih (x9 + 1) acc i h (by omega) (by omega) hacc hi) m 0 [] i h (by omega) (by omega) (by simp) hi)
  simp only [spec_l09DrawPlan.l0, em]
  rw [if_pos (by omega), if_pos hs]
  rfl
theorem drawPlan_j0 (l : List Int) (hn : l.length ≤ 140737488355328) (F x6 i h : Int) (hx6 : x6 ≤ 6) (hx0 : 0 ≤ x6) (hi : dAt l i) : planFin l (fun k => spec_l09DrawPlan.j0 k F x6 l i h) := by
 obtain ⟨b2, i2, h2, e2, r2, d2⟩ := drawBelow l hn i h hi (wrap64 (x6 + 1))
 rw [w64 (by omega) (by omega)] at r2
 obtain ⟨q, k1⟩ := evs1 (sTwo_ev F)
 generalize two F = t at k1
 by_cases ht : b2 > t
 · obtain ⟨F', K', out, i', h', e, hl, hd⟩ := drawPlan_l0 l hn F t t (by omega) (t - 0).toNat 0 [] i2 h2 (by omega) (by omega) (by simp) d2
   obtain ⟨m, k2⟩ := evs1 e
   refine ⟨F', K', out, i', h', ⟨q + m + 2, fun k hk => ?_⟩, hl, hd⟩
   obtain ⟨j, rfl⟩ : ∃ j, k = q + m + j + 1 + 1 := ⟨k - q - m - 2, by omega⟩
   have k1' := k1 (m + j + 1)
   have k2' := k2 (q + j)
   rw [show q + (m + j + 1) = q + m + j + 1 by omega] at k1'
   rw [show m + (q + j) = q + m + j by omega] at k2'
   simp only [spec_l09DrawPlan.j0, spec_l09DrawPlan.j1, e2, k1', Option.bind_some]
   rw [if_pos ht]
   exact k2'
 · obtain ⟨F', K', out, i', h', e, hl, hd⟩ := drawPlan_l0 l hn F b2 b2 (by omega) (b2 - 0).toNat 0 [] i2 h2 (by omega) (by omega) (by simp) d2
   obtain ⟨m, k2⟩ := evs1 e
   refine ⟨F', K', out, i', h', ⟨q + m + 2, fun k hk => ?_⟩, hl, hd⟩
   obtain ⟨j, rfl⟩ : ∃ j, k = q + m + j + 1 + 1 := ⟨k - q - m - 2, by omega⟩
   have k1' := k1 (m + j + 1)
   have k2' := k2 (q + j)
   rw [show q + (m + j + 1) = q + m + j + 1 by omega] at k1'
   rw [show m + (q + j) = q + m + j by omega] at k2'
   simp only [spec_l09DrawPlan.j0, spec_l09DrawPlan.j1, e2, k1', Option.bind_some]
   rw [if_neg ht]
   exact k2'
theorem drawPlan (l l2 : List Int) (hn : l.length ≤ 140737488355328) (hn2 : l2.length ≤ 1048576) (i h : Int) (hi : dAt l i) : planFin l (fun k => spec_l09DrawPlan.f k l i h l2) := by
 obtain ⟨b2, i2, h2, e2, r2, d2⟩ := drawBelow l hn i h hi 9
 have w1 : wrap64 ((l2.length : Int) / 40) = (l2.length : Int) / 40 := w64 (by omega) (by omega)
 have w2 : wrap64 (1 + (l2.length : Int) / 40) = 1 + (l2.length : Int) / 40 := w64 (by omega) (by omega)
 by_cases hgt : 1 + (l2.length : Int) / 40 > 6
 · obtain ⟨F', K', out, i', h', e, hl, hd⟩ := drawPlan_j0 l hn b2 6 i2 h2 (by omega) (by omega) d2
   refine ⟨F', K', out, i', h', Ev.congr (fun k => ?_) e, hl, hd⟩
   simp only [spec_l09DrawPlan.f, e2, w1, w2, Option.bind_some]
   rw [if_pos hgt]
 · obtain ⟨F', K', out, i', h', e, hl, hd⟩ := drawPlan_j0 l hn b2 (1 + (l2.length : Int) / 40) i2 h2 (by omega) (by omega) d2
   refine ⟨F', K', out, i', h', Ev.congr (fun k => ?_) e, hl, hd⟩
   simp only [spec_l09DrawPlan.f, e2, w1, w2, Option.bind_some]
   rw [if_neg hgt]

theorem drawDeal (l : List Int) (hn : l.length ≤ 1048576) : ∃ F K st a, Ev (fun k => spec_DrawDeal.f k l) (F, K, st, a) ∧ st.length ≤ 600 := by
 obtain ⟨h0, e0⟩ := drawNew l (by omega)
 obtain ⟨F, K, st, i1, h1, e1, hl, d1⟩ := drawPlan l l (by omega) hn 0 h0 (dAt0 l)
 obtain ⟨b, i2, h2, e2, _, _⟩ := drawPickInt l (by omega) i1 h1 d1 [1, 2, 3, 4, 7, 16, 17, 0] (by simp)
 obtain ⟨m, k0, k1⟩ := evs2 e0 e1
 refine ⟨F, K, st, b, ⟨m, fun k hk => ?_⟩, hl⟩
 obtain ⟨j, rfl⟩ : ∃ j, k = m + j := ⟨k - m, by omega⟩
 simp only [spec_DrawDeal.f, k0 j, k1 j, e2, Option.bind_some]

end Go.Proofs.Ytogdhclomgafdaa.QFnDealt

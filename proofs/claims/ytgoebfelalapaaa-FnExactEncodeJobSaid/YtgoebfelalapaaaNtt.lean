/- Plain lemmas on sums, congruences and transforms: no program is named here. -/
import Derived.Test.YtgoebfelalapaaaMath
namespace Go.Proofs.Ytgoebfelalapaaa.Math
open Go.RowKit Go.Proofs.YtgoebfelalapaaaW.PrintWords Go.Proofs.YtgoebfelalapaaaW.PrintLast
set_option linter.unusedVariables false
set_option linter.unusedSimpArgs false

/-! ### sums -/
def sm : Nat → (Nat → Int) → Int
  | 0, _ => 0
  | n + 1, f => sm n f + f n
theorem sm_congr {n : Nat} {f g : Nat → Int} (h : ∀ i, i < n → f i = g i) : sm n f = sm n g := by
  induction n with
  | zero => rfl
  | succ n ih => rw [sm, sm, ih (fun i hi => h i (by omega)), h n (by omega)]
theorem sm_zero (n : Nat) : sm n (fun _ => 0) = 0 := by
  induction n with
  | zero => rfl
  | succ n ih => rw [sm, ih]; rfl
theorem sm_add (n : Nat) (f g : Nat → Int) : sm n (fun i => f i + g i) = sm n f + sm n g := by
  induction n with
  | zero => rfl
  | succ n ih => rw [sm, sm, sm, ih]; omega
theorem sm_mul (n : Nat) (c : Int) (f : Nat → Int) : sm n (fun i => c * f i) = c * sm n f := by
  induction n with
  | zero => simp [sm]
  | succ n ih => rw [sm, sm, ih, Int.mul_add]
theorem sm_mul_right (n : Nat) (c : Int) (f : Nat → Int) : sm n (fun i => f i * c) = sm n f * c := by
  rw [Int.mul_comm, ← sm_mul]; exact sm_congr fun i _ => Int.mul_comm _ _
theorem sm_two (n : Nat) (f : Nat → Int) : sm (2 * n) f = sm n (fun j => f (2 * j)) + sm n (fun j => f (2 * j + 1)) := by
  induction n with
  | zero => rfl
  | succ n ih => rw [show 2 * (n + 1) = 2 * n + 1 + 1 by omega, sm, sm, ih, sm, sm]; omega
theorem sm_append (m n : Nat) (f : Nat → Int) : sm (m + n) f = sm m f + sm n (fun i => f (m + i)) := by
  induction n with
  | zero => simp [sm]
  | succ n ih => rw [show m + (n + 1) = m + n + 1 by omega, sm, ih, sm]; omega
theorem sm_comm (m n : Nat) (f : Nat → Nat → Int) : sm m (fun i => sm n (fun j => f i j)) = sm n (fun j => sm m (fun i => f i j)) := by
  induction m with
  | zero => simp [sm, sm_zero]
  | succ m ih => rw [sm, ih, ← sm_add]; rfl
theorem sm_one (n : Nat) (i : Nat) (hi : i < n) (f : Nat → Int) : sm n (fun j => if j = i then f j else 0) = f i := by
  induction n with
  | zero => omega
  | succ n ih =>
    rw [sm]
    by_cases h : i = n
    · subst h
      rw [if_pos rfl, sm_congr (g := fun _ => 0) (fun j hj => if_neg (by omega)), sm_zero]; omega
    · rw [ih (by omega), if_neg (by omega)]; omega

/-! ### congruence -/
def Md (p a b : Int) : Prop := ∃ c, a = b + p * c
theorem Md.refl (p a : Int) : Md p a a := ⟨0, by simp⟩
theorem Md.of_eq {p a b : Int} (h : a = b) : Md p a b := h ▸ Md.refl p a
theorem Md.symm {p a b : Int} (h : Md p a b) : Md p b a := by
  obtain ⟨c, rfl⟩ := h; exact ⟨-c, by grind⟩
theorem Md.trans {p a b c : Int} (h : Md p a b) (k : Md p b c) : Md p a c := by
  obtain ⟨x, rfl⟩ := h; obtain ⟨y, rfl⟩ := k; exact ⟨y + x, by grind⟩
theorem Md.add {p a b c d : Int} (h : Md p a b) (k : Md p c d) : Md p (a + c) (b + d) := by
  obtain ⟨x, rfl⟩ := h; obtain ⟨y, rfl⟩ := k; exact ⟨x + y, by grind⟩
theorem Md.sub {p a b c d : Int} (h : Md p a b) (k : Md p c d) : Md p (a - c) (b - d) := by
  obtain ⟨x, rfl⟩ := h; obtain ⟨y, rfl⟩ := k; exact ⟨x - y, by grind⟩
theorem Md.mul {p a b c d : Int} (h : Md p a b) (k : Md p c d) : Md p (a * c) (b * d) := by
  obtain ⟨x, rfl⟩ := h; obtain ⟨y, rfl⟩ := k; exact ⟨x * d + y * b + p * x * y, by grind⟩
theorem Md.neg {p a b : Int} (h : Md p a b) : Md p (-a) (-b) := by
  obtain ⟨x, rfl⟩ := h; exact ⟨-x, by grind⟩
theorem Md.pow {p a b : Int} (h : Md p a b) (n : Nat) : Md p (a ^ n) (b ^ n) := by
  induction n with
  | zero => exact Md.of_eq (by simp)
  | succ n ih => rw [Int.pow_succ, Int.pow_succ]; exact ih.mul h
theorem Md.sm {p : Int} {n : Nat} {f g : Nat → Int} (h : ∀ i, i < n → Md p (f i) (g i)) : Md p (sm n f) (sm n g) := by
  induction n with
  | zero => exact Md.refl _ _
  | succ n ih => exact (ih fun i hi => h i (by omega)).add (h n (by omega))
theorem Md.mod (p a : Int) : Md p (a % p) a := ⟨-(a / p), by have := Int.mul_ediv_add_emod a p; grind⟩
theorem Md.emod {p a b : Int} (h : Md p a b) : a % p = b % p := by
  obtain ⟨x, rfl⟩ := h; exact Int.add_mul_emod_self_left b p x
theorem Md.eq {p a b : Int} (h : Md p a b) (ha : 0 ≤ a) (ha' : a < p) (hb : 0 ≤ b) (hb' : b < p) : a = b := by
  have := h.emod
  rwa [Int.emod_eq_of_lt ha ha', Int.emod_eq_of_lt hb hb'] at this
theorem Md.of_emod {p a b : Int} (h : a % p = b % p) : Md p a b := (Md.mod p a).symm.trans ((Md.of_eq h).trans (Md.mod p b))

/-! ### remainders as the machine has them -/
theorem tmod_bounds {x p : Int} (hp : 0 < p) : -p < Int.tmod x p ∧ Int.tmod x p < p := ⟨Int.lt_tmod_of_pos x hp, Int.tmod_lt_of_pos x hp⟩
theorem tmod_md (x p : Int) : Md p (Int.tmod x p) x := ⟨-(Int.tdiv x p), by have := Int.mul_tdiv_add_tmod x p; grind⟩
theorem tmod_emod (x p : Int) : Int.tmod x p % p = x % p := (tmod_md x p).emod
theorem red_lt {x p : Int} (hp : 0 < p) (h : Int.tmod x p < 0) : Int.tmod x p + p = x % p := by
  have hb := tmod_bounds (x := x) hp
  have h1 : Md p (Int.tmod x p + p) (x % p) := ((tmod_md x p).add ⟨1, by simp⟩).trans ((Md.of_eq (Int.add_zero x)).trans (Md.mod p x).symm)
  exact h1.eq (by omega) (by omega) (Int.emod_nonneg _ (by omega)) (Int.emod_lt_of_pos _ hp)
theorem red_ge {x p : Int} (hp : 0 < p) (h : ¬ Int.tmod x p < 0) : Int.tmod x p = x % p :=
  (((tmod_md x p).trans (Md.mod p x).symm)).eq (by omega) (tmod_bounds hp).2 (Int.emod_nonneg _ (by omega)) (Int.emod_lt_of_pos _ hp)
theorem red_two {x p : Int} (hp : 0 < p) : Int.tmod (Int.tmod x p + p) p = x % p := by
  have hb := tmod_bounds (x := x) hp
  rw [Int.tmod_eq_emod_of_nonneg (by omega)]
  exact ((tmod_md x p).add ⟨1, by simp⟩ : Md p (Int.tmod x p + p) (x + 0)).emod.trans (by rw [Int.add_zero])
theorem sq_pow (a : Int) (n : Nat) : (a * a) ^ n = a ^ (2 * n) := by
  rw [Int.pow_mul, show a ^ 2 = a * a by grind]
theorem pw_odd {p out a : Int} {e : Nat} (h : e % 2 = 1) : ((out * a % p) * (a * a % p) ^ (e / 2)) % p = (out * a ^ e) % p := by
  refine Md.emod (((Md.mod p _).mul ((Md.mod p (a * a)).pow (e / 2))).trans (Md.of_eq ?_))
  have he : a ^ e = a ^ (2 * (e / 2)) * a := by rw [← Int.pow_succ]; congr 1; omega
  rw [sq_pow, he]; grind
theorem pw_even {p out a : Int} {e : Nat} (h : ¬ e % 2 = 1) : (out * (a * a % p) ^ (e / 2)) % p = (out * a ^ e) % p := by
  refine Md.emod (((Md.refl p out).mul ((Md.mod p (a * a)).pow (e / 2))).trans (Md.of_eq ?_))
  rw [sq_pow]; congr 2; omega
/-! ### reversed bits -/
def rv : Nat → Nat → Nat
  | 0, _ => 0
  | k + 1, x => (x % 2) * 2 ^ k + rv k (x / 2)
theorem rv_succ (k x : Nat) : rv (k + 1) x = (x % 2) * 2 ^ k + rv k (x / 2) := rfl
theorem rv_lt (k : Nat) : ∀ x, rv k x < 2 ^ k := by
  induction k with
  | zero => intro x; simp [rv]
  | succ k ih =>
    intro x
    have := ih (x / 2)
    rw [rv, Nat.pow_succ]
    rcases Nat.mod_two_eq_zero_or_one x with h | h <;> rw [h] <;> omega
theorem rv_even (m b : Nat) : rv (m + 1) (2 * b) = rv m b := by
  rw [rv, show 2 * b % 2 = 0 by omega, show 2 * b / 2 = b by omega]; omega
theorem rv_odd (m b : Nat) : rv (m + 1) (2 * b + 1) = 2 ^ m + rv m b := by
  rw [rv, show (2 * b + 1) % 2 = 1 by omega, show (2 * b + 1) / 2 = b by omega]; omega
/-- The highest bit comes out as the lowest. -/
theorem rv_high (k : Nat) : ∀ x, x < 2 ^ k → rv (k + 1) (2 ^ k + x) = 2 * rv k x + 1 ∧ rv (k + 1) x = 2 * rv k x := by
  induction k with
  | zero =>
    intro x hx
    obtain rfl : x = 0 := by simp at hx; exact hx
    simp [rv]
  | succ k ih =>
    intro x hx
    rw [Nat.pow_succ] at hx
    obtain ⟨h1, h2⟩ := ih (x / 2) (by omega)
    have e : 2 ^ (k + 1) = 2 * 2 ^ k := by rw [Nat.pow_succ]; omega
    constructor
    · rw [rv_succ (k + 1), rv_succ k x, show (2 ^ (k + 1) + x) / 2 = 2 ^ k + x / 2 by omega, h1, show (2 ^ (k + 1) + x) % 2 = x % 2 by omega, e]
      rcases Nat.mod_two_eq_zero_or_one x with h | h <;> rw [h] <;> omega
    · rw [rv_succ (k + 1), h2, rv_succ k x, e]
      rcases Nat.mod_two_eq_zero_or_one x with h | h <;> rw [h] <;> omega
theorem rv_rv (k : Nat) : ∀ x, x < 2 ^ k → rv k (rv k x) = x := by
  induction k with
  | zero => intro x hx; simp at hx; simp [rv, hx]
  | succ k ih =>
    intro x hx
    rw [Nat.pow_succ] at hx
    have hl := rv_lt k (x / 2)
    have hi := ih (x / 2) (by omega)
    obtain ⟨h1, h2⟩ := rv_high k (rv k (x / 2)) hl
    rw [rv_succ k x]
    rcases Nat.mod_two_eq_zero_or_one x with h | h
    · rw [h, show 0 * 2 ^ k + rv k (x / 2) = rv k (x / 2) by omega, h2, hi]; omega
    · rw [h, show 1 * 2 ^ k + rv k (x / 2) = 2 ^ k + rv k (x / 2) by omega, h1, hi]; omega

/-! ### the transform, level by level -/
structure Roots (p : Int) (w : Nat → Int) (t : Nat) : Prop where
  one : Md p (w 0) 1
  half : 1 ≤ t → Md p (w 1) (-1)
  sq : ∀ s, s + 1 ≤ t → Md p (w (s + 1) * w (s + 1)) (w s)
theorem Roots.half_pow {p : Int} {w : Nat → Int} {t : Nat} (R : Roots p w t) : ∀ s, s + 1 ≤ t → Md p (w (s + 1) ^ (2 ^ s)) (-1) := by
  intro s
  induction s with
  | zero => intro h; rw [show w (0 + 1) ^ 2 ^ 0 = w 1 by grind]; exact R.half h
  | succ s ih =>
    intro h
    rw [Nat.pow_succ, Nat.mul_comm, Int.pow_mul]
    refine (Md.pow ?_ _).trans (ih (by omega))
    have := R.sq (s + 1) h
    rwa [show w (s + 1 + 1) ^ 2 = w (s + 1 + 1) * w (s + 1 + 1) by grind]
theorem Roots.full_pow {p : Int} {w : Nat → Int} {t : Nat} (R : Roots p w t) (s : Nat) (h : s ≤ t) : Md p (w s ^ (2 ^ s)) 1 := by
  cases s with
  | zero => rw [show w 0 ^ 2 ^ 0 = w 0 by grind]; exact R.one
  | succ s =>
    rw [Nat.pow_succ, Int.pow_mul]
    exact ((R.half_pow s h).pow 2).trans (Md.of_eq (by simp))
/-- One level of the transform, at one place. -/
def stg (p : Int) (W : Int) (s : Nat) (a : Nat → Int) (x : Nat) : Int :=
  if x / 2 ^ s % 2 = 0 then (a x + a (x + 2 ^ s) * W ^ (x % 2 ^ s)) % p else (a (x - 2 ^ s) - a x * W ^ (x % 2 ^ s)) % p
def lev (p : Int) (w : Nat → Int) (a : Nat → Int) : Nat → Nat → Int
  | 0 => a
  | s + 1 => stg p (w (s + 1)) s (lev p w a s)
/-- The sum that a transform is. -/
def dft (n : Nat) (W : Int) (v : Nat → Int) (i : Nat) : Int := sm n fun j => v j * W ^ (i * j)
theorem lev_sum {p : Int} {w : Nat → Int} {t : Nat} (R : Roots p w t) (k : Nat) (hk : k ≤ t) (v : Nat → Int) :
    ∀ s, s ≤ k → ∀ b i, b < 2 ^ (k - s) → i < 2 ^ s → Md p (lev p w (fun x => v (rv k x)) s (b * 2 ^ s + i)) (sm (2 ^ s) fun j => v (rv (k - s) b + 2 ^ (k - s) * j) * w s ^ (i * j)) := by
  intro s
  induction s with
  | zero =>
    intro h b i hb hi
    obtain rfl : i = 0 := by simp at hi; exact hi
    simp [lev, sm]
    exact Md.refl _ _
  | succ s ih =>
    intro h b i hb hi
    obtain ⟨m, hm⟩ : ∃ m, k - s = m + 1 := ⟨k - s - 1, by omega⟩
    have hm' : k - (s + 1) = m := by omega
    rw [hm'] at hb ⊢
    have hp : 2 ^ (k - s) = 2 * 2 ^ m := by rw [hm, Nat.pow_succ]; omega
    have hs2 : 2 ^ (s + 1) = 2 * 2 ^ s := by rw [Nat.pow_succ]; omega
    have hpos : 0 < 2 ^ s := Nat.pow_pos (by omega)
    generalize hH : 2 ^ s = H at hs2 hpos ih
    generalize hW : w (s + 1) = W
    have hsq : Md p (W * W) (w s) := hW ▸ R.sq s (by omega)
    have hhalf : Md p (W ^ H) (-1) := by rw [← hW, ← hH]; exact R.half_pow s (by omega)
    have hfull : Md p (W ^ (2 * H)) 1 := by rw [Nat.mul_comm, Int.pow_mul]; exact (hhalf.pow 2).trans (Md.of_eq (by simp))
    rw [hs2] at hi ⊢
    rw [sm_two]
    -- the two halves of the level below
    have key : ∀ i', i' < H → Md p (lev p w (fun x => v (rv k x)) s (2 * b * H + i')) (sm H fun j => v (rv m b + 2 ^ m * (2 * j)) * w s ^ (i' * j)) := by
      intro i' hi'
      have h1 := ih (by omega) (2 * b) i' (by rw [hp]; omega) hi'
      rw [hm, rv_even, Nat.pow_succ] at h1
      refine h1.trans (Md.of_eq (sm_congr fun j _ => ?_))
      rw [Nat.mul_assoc]
    have key2 : ∀ i', i' < H → Md p (lev p w (fun x => v (rv k x)) s ((2 * b + 1) * H + i')) (sm H fun j => v (rv m b + 2 ^ m * (2 * j + 1)) * w s ^ (i' * j)) := by
      intro i' hi'
      have h1 := ih (by omega) (2 * b + 1) i' (by rw [hp]; omega) hi'
      rw [hm, rv_odd, Nat.pow_succ] at h1
      refine h1.trans (Md.of_eq (sm_congr fun j _ => ?_))
      rw [Nat.mul_add, Nat.mul_assoc, Nat.mul_one, Nat.add_comm (2 ^ m) (rv m b), Nat.add_assoc, Nat.add_comm (2 ^ m)]
    have pe : ∀ i' j, Md p (W ^ (i' * (2 * j))) (w s ^ (i' * j)) := by
      intro i' j
      rw [show i' * (2 * j) = 2 * (i' * j) by rw [← Nat.mul_assoc, Nat.mul_comm i' 2, Nat.mul_assoc], Int.pow_mul]
      refine Md.pow ?_ _
      rwa [show W ^ 2 = W * W by grind]
    simp only [lev, stg, hH, hW]
    by_cases hlt : i < H
    · have e1 : (b * (2 * H) + i) / H = 2 * b := by
        rw [show b * (2 * H) + i = i + H * (2 * b) by rw [← Nat.mul_assoc, Nat.mul_comm]; rw [Nat.mul_comm b 2, Nat.add_comm], Nat.add_mul_div_left _ _ hpos, Nat.div_eq_of_lt hlt]; omega
      have e2 : (b * (2 * H) + i) % H = i := by
        rw [show b * (2 * H) + i = i + H * (2 * b) by rw [← Nat.mul_assoc, Nat.mul_comm]; rw [Nat.mul_comm b 2, Nat.add_comm], Nat.add_mul_mod_self_left, Nat.mod_eq_of_lt hlt]
      rw [e1, e2, if_pos (by omega)]
      refine (Md.mod p _).trans ?_
      have x1 := key i hlt
      have x2 := key2 i hlt
      rw [show 2 * b * H + i = b * (2 * H) + i by rw [Nat.mul_comm 2 b, Nat.mul_assoc]] at x1
      rw [show (2 * b + 1) * H + i = b * (2 * H) + i + H by rw [Nat.add_mul, Nat.mul_comm 2 b, Nat.mul_assoc]; omega] at x2
      refine Md.add (x1.trans (Md.sm fun j _ => (Md.refl _ _).mul (pe i j).symm)) ((x2.mul (Md.refl p (W ^ i))).trans ?_)
      rw [← sm_mul_right]
      refine Md.sm fun j _ => ?_
      rw [show i * (2 * j + 1) = i * (2 * j) + i by rw [Nat.mul_add, Nat.mul_one], Int.pow_add, ← Int.mul_assoc]
      exact ((Md.refl _ _).mul (pe i j).symm).mul (Md.refl _ _)
    · obtain ⟨i', rfl⟩ : ∃ i', i = H + i' := ⟨i - H, by omega⟩
      have hi' : i' < H := by omega
      have e0 : b * (2 * H) + (H + i') = i' + H * (2 * b + 1) := by
        rw [Nat.mul_add, Nat.mul_one, show b * (2 * H) = H * (2 * b) by rw [← Nat.mul_assoc, Nat.mul_comm, Nat.mul_comm b 2]]; omega
      have e1 : (b * (2 * H) + (H + i')) / H = 2 * b + 1 := by
        rw [e0, Nat.add_mul_div_left _ _ hpos, Nat.div_eq_of_lt hi']; omega
      have e2 : (b * (2 * H) + (H + i')) % H = i' := by
        rw [e0, Nat.add_mul_mod_self_left, Nat.mod_eq_of_lt hi']
      rw [e1, e2, if_neg (by omega)]
      refine (Md.mod p _).trans ?_
      have x1 := key i' hi'
      have x2 := key2 i' hi'
      rw [show 2 * b * H + i' = b * (2 * H) + (H + i') - H by rw [Nat.mul_comm 2 b, Nat.mul_assoc]; omega] at x1
      rw [show (2 * b + 1) * H + i' = b * (2 * H) + (H + i') by rw [Nat.add_mul, Nat.mul_comm 2 b, Nat.mul_assoc]; omega] at x2
      have pf : ∀ j, Md p (W ^ (H * (2 * j))) 1 := by
        intro j
        rw [show H * (2 * j) = (2 * H) * j by rw [← Nat.mul_assoc, Nat.mul_comm H 2], Int.pow_mul]
        exact (hfull.pow j).trans (Md.of_eq (Int.one_pow))
      rw [Int.sub_eq_add_neg]
      refine Md.add (x1.trans (Md.sm fun j _ => (Md.refl _ _).mul ?_)) (((x2.mul (Md.refl p (W ^ i'))).neg).trans ?_)
      · rw [Nat.add_mul, Int.pow_add]
        exact (((pf j).mul (pe i' j)).trans (Md.of_eq (Int.one_mul _))).symm
      · rw [← sm_mul_right, show ∀ z : Int, -z = (-1) * z by intro z; omega, ← sm_mul]
        refine Md.sm fun j _ => ?_
        rw [show (H + i') * (2 * j + 1) = H * (2 * j) + i' * (2 * j) + (H + i') by rw [Nat.mul_add, Nat.mul_one, Nat.add_mul], Int.pow_add, Int.pow_add, Int.pow_add]
        have z : Md p (W ^ (H * (2 * j)) * W ^ (i' * (2 * j)) * (W ^ H * W ^ i')) (1 * w s ^ (i' * j) * ((-1) * W ^ i')) := ((pf j).mul (pe i' j)).mul (hhalf.mul (Md.refl _ _))
        exact (Md.of_eq (by grind)).trans ((Md.refl _ (v (rv m b + 2 ^ m * (2 * j + 1)))).mul z.symm)
/-- All levels together are the sum. -/
theorem lev_dft {p : Int} {w : Nat → Int} {t : Nat} (R : Roots p w t) (k : Nat) (hk : k ≤ t) (v : Nat → Int) (i : Nat) (hi : i < 2 ^ k) :
    Md p (lev p w (fun x => v (rv k x)) k i) (dft (2 ^ k) (w k) v i) := by
  have h := lev_sum R k hk v k (Nat.le_refl _) 0 i (by simp) hi
  simpa [rv, dft] using h
/-! ### the way back -/
theorem back_pow {p W z : Int} {n j i : Nat} (m : Nat) (hz : Md p (W * (z * z)) 1) (hW : Md p (W ^ n) 1) (hij : i + j = n ∨ i + j = 0) : Md p (W ^ (i * m)) (z ^ (2 * j * m)) := by
  have h1 : Md p ((W * (z * z)) ^ (j * m)) 1 := (hz.pow _).trans (Md.of_eq Int.one_pow)
  have h2 : Md p (W ^ ((i + j) * m)) 1 := by
    rcases hij with h | h
    · rw [h, Int.pow_mul]; exact (hW.pow _).trans (Md.of_eq Int.one_pow)
    · rw [h]; simp; exact Md.refl _ _
  have e : W ^ (i * m) * (W * (z * z)) ^ (j * m) = W ^ ((i + j) * m) * z ^ (2 * j * m) := by
    rw [Int.mul_pow, sq_pow, Nat.add_mul, Int.pow_add, Nat.mul_assoc, Int.mul_assoc]
  have a1 : Md p (W ^ (i * m)) (W ^ (i * m) * (W * (z * z)) ^ (j * m)) := by
    have := ((Md.refl p (W ^ (i * m))).mul h1).symm
    rwa [Int.mul_one] at this
  have a2 : Md p (W ^ ((i + j) * m) * z ^ (2 * j * m)) (z ^ (2 * j * m)) := by
    have := h2.mul (Md.refl p (z ^ (2 * j * m)))
    rwa [Int.one_mul] at this
  rw [e] at a1
  exact a1.trans a2
theorem pow_per {p z : Int} {n : Nat} (hz : Md p (z ^ n) 1) (e : Nat) : Md p (z ^ (e % n)) (z ^ e) := by
  have h : z ^ e = (z ^ n) ^ (e / n) * z ^ (e % n) := by rw [← Int.pow_mul, ← Int.pow_add, Nat.div_add_mod]
  rw [h]
  have := ((hz.pow (e / n)).trans (Md.of_eq Int.one_pow)).mul (Md.refl p (z ^ (e % n)))
  rw [Int.one_mul] at this
  exact this.symm
/-! ### powers, told fast -/
def pm (p : Nat) : Nat → Nat → Nat → Nat
  | 0, _, _ => 1 % p
  | f + 1, x, e => if e = 0 then 1 % p else if e % 2 = 1 then x * pm p f (x * x % p) (e / 2) % p else pm p f (x * x % p) (e / 2)
theorem pm_eq (p : Nat) : ∀ f x e, e < 2 ^ f → pm p f x e = x ^ e % p := by
  intro f
  induction f with
  | zero => intro x e h; have : e = 0 := by simpa using h
            subst this; rfl
  | succ f ih =>
    intro x e h
    rw [Nat.pow_succ] at h
    unfold pm
    by_cases h0 : e = 0
    · subst h0; rfl
    · rw [if_neg h0, ih _ _ (by omega)]
      have e1 : (x * x % p) ^ (e / 2) % p = (x ^ 2) ^ (e / 2) % p := by rw [← Nat.pow_mod, Nat.pow_two]
      by_cases ho : e % 2 = 1
      · rw [if_pos ho, e1, ← Nat.pow_mul, Nat.mul_mod, Nat.mod_mod, ← Nat.mul_mod, ← Nat.pow_succ']
        congr 2; omega
      · rw [if_neg ho, e1, ← Nat.pow_mul]
        congr 2; omega
theorem pm_int (p f x e : Nat) (h : e < 2 ^ f) : ((x : Int) ^ e) % (p : Int) = (pm p f x e : Int) := by
  rw [pm_eq p f x e h]; norm_cast
/-! ### rows told by a rule -/
def tab (n : Nat) (g : Nat → Int) : List Int := (List.range n).map g
theorem tab_len (n : Nat) (g : Nat → Int) : (tab n g).length = n := by simp [tab]
theorem tab_rd {n : Nat} {g : Nat → Int} {i : Nat} (h : i < n) : rd (tab n g) (i : Int) = g i := by
  rw [rd_eq (by rw [tab_len]; exact h)]; simp [tab]
theorem tab_congr {n : Nat} {g g' : Nat → Int} (h : ∀ x, x < n → g x = g' x) : tab n g = tab n g' := by
  apply List.ext_getElem
  · simp [tab]
  · intro i h1 h2
    simp [tab] at h1 ⊢
    exact h i h1
theorem tab_set {n : Nat} {g : Nat → Int} {i : Nat} (v : Int) : (tab n g).set i v = tab n (fun x => if x = i then v else g x) := by
  apply List.ext_getElem
  · simp [tab]
  · intro j h1 h2
    simp [tab] at h1 ⊢
    rw [List.getElem_set]
    by_cases hj : i = j
    · rw [if_pos hj, if_pos hj.symm]
    · rw [if_neg hj, if_neg (fun e => hj e.symm)]; simp
theorem tab_of (l : List Int) : l = tab l.length (fun x => rd l (x : Int)) := by
  apply List.ext_getElem
  · simp [tab]
  · intro i h1 h2
    simp [tab]
    rw [rd_eq h1]
theorem tab_snoc (n : Nat) (g : Nat → Int) : tab n g ++ [g n] = tab (n + 1) g := by simp [tab, List.range_succ]
theorem pow2_9 {K : Nat} (h : K ≤ 9) : 2 ^ K ≤ 512 ∧ 1 ≤ 2 ^ K := by
  rcases (show K = 0 ∨ K = 1 ∨ K = 2 ∨ K = 3 ∨ K = 4 ∨ K = 5 ∨ K = 6 ∨ K = 7 ∨ K = 8 ∨ K = 9 by omega) with rfl | rfl | rfl | rfl | rfl | rfl | rfl | rfl | rfl | rfl <;> decide
/-! ### the logarithm to the base of two, up to nine -/
def logF : Nat → Nat → Int → Int
  | 0, _, _ => -1
  | d + 1, i, n => if n = 2 ^ i then (i : Int) else logF d (i + 1) n
def logB (n : Int) : Int := logF 10 0 n
theorem logF_cases (n : Int) : ∀ d i, i + d = 10 → logF d i n = -1 ∨ ∃ K : Nat, K ≤ 9 ∧ logF d i n = K ∧ n = 2 ^ K := by
  intro d
  induction d with
  | zero => intro i h; exact Or.inl rfl
  | succ d ih =>
    intro i h
    rw [logF]
    by_cases hn : n = 2 ^ i
    · rw [if_pos hn]; exact Or.inr ⟨i, by omega, rfl, hn⟩
    · rw [if_neg hn]; exact ih (i + 1) (by omega)
theorem logB_cases (n : Int) : logB n = -1 ∨ ∃ K : Nat, K ≤ 9 ∧ logB n = K ∧ n = 2 ^ K := logF_cases n 10 0 rfl
theorem logB_pow {K : Nat} (h : K ≤ 9) : logB (2 ^ K) = K := by
  rcases (show K = 0 ∨ K = 1 ∨ K = 2 ∨ K = 3 ∨ K = 4 ∨ K = 5 ∨ K = 6 ∨ K = 7 ∨ K = 8 ∨ K = 9 by omega) with rfl | rfl | rfl | rfl | rfl | rfl | rfl | rfl | rfl | rfl <;> decide
theorem logB_len {n : Nat} (h : 0 ≤ logB (n : Int)) : ∃ K : Nat, K ≤ 9 ∧ logB (n : Int) = K ∧ n = 2 ^ K := by
  rcases logB_cases (n : Int) with e | ⟨K, h1, h2, h3⟩
  · omega
  · exact ⟨K, h1, h2, by have : (n : Int) = ((2 ^ K : Nat) : Int) := by rw [h3]; simp
                         omega⟩
end Go.Proofs.Ytgoebfelalapaaa.Math

/- Lemmas on the printed functions of FnExactTakeNumber: what each comes to. -/
import Derived.Test.YtgoebfelalapaaaPFnExactTakeNumberx
import Derived.Test.YtgoebfelalapaaaNtt
namespace Go.Proofs.Ytgoebfelalapaaa.QFnExactTakeNumber
open Go.RowKit Go.Proofs.Ytgoebfelalapaaa.PFnExactTakeNumber Go.Proofs.YtgoebfelalapaaaW.PrintWords Go.Proofs.YtgoebfelalapaaaW.PrintLast Go.Proofs.Ytgoebfelalapaaa.Math
set_option linter.unusedVariables false
set_option linter.unusedSimpArgs false

-- block toByteS
theorem toByteS_l (l : List Int) (hn : l.length ≤ 140737488355328) : ∀ (d i : Nat), l.length - i = d → i ≤ l.length →
    Ev (fun k => laws_toByteS.l0 k l (l.take i ++ List.replicate (l.length - i) 0) (i : Int)) l := by
  intro d
  induction d with
  | zero =>
    intro i h hi
    refine ev_now fun k => ?_
    simp only [laws_toByteS.l0]
    rw [if_neg (by omega), fill_all l 0 i (by omega)]
  | succ d ih =>
    intro i h hi
    refine Ev.step (fun k => ?_) (ih (i + 1) (by omega) (by omega))
    simp only [laws_toByteS.l0]
    rw [if_pos (by omega), if_pos (by omega), if_pos (by simp; omega), wsucc (by omega), Int.toNat_natCast, set_fill l 0 _ i (by omega) (rd_eq (by omega))]
theorem toByteS_ev (l : List Int) (hn : l.length ≤ 140737488355328) : Ev (fun k => laws_toByteS.f k l) l := by
  refine Ev.congr (fun k => ?_) (toByteS_l l hn l.length 0 (by omega) (by omega))
  simp only [laws_toByteS.f]
  rw [if_pos (by omega), if_pos (by rw [Int.toNat_natCast]; omega), Int.toNat_natCast, fill_zero l 0]
  rfl

-- block eqByteS
theorem eqByteS_l (l : List Int) (hn : l.length ≤ 140737488355328) : ∀ (d i : Nat), l.length - i = d → i ≤ l.length → Ev (fun k => laws_eqByteS.l0 k l l (i : Int)) true := by
  intro d
  induction d with
  | zero =>
    intro i h hi
    refine ev_now fun k => ?_
    simp only [laws_eqByteS.l0]
    rw [if_neg (by omega)]
  | succ d ih =>
    intro i h hi
    refine Ev.step (fun k => ?_) (ih (i + 1) (by omega) (by omega))
    simp only [laws_eqByteS.l0]
    rw [if_pos (by omega), if_pos (by omega), if_pos (by omega), if_pos trivial, wsucc (by omega)]
theorem eqByteS_ev (l : List Int) (hn : l.length ≤ 140737488355328) : Ev (fun k => laws_eqByteS.f k l l) true := by
  refine Ev.congr (fun k => ?_) (eqByteS_l l hn l.length 0 (by omega) (by omega))
  simp only [laws_eqByteS.f]
  rw [if_pos trivial]
  rfl

-- block l01In
theorem in_eq (a b c : Int) : spec_l01In.f a b c = some (decide (b ≤ a ∧ a ≤ c)) := by
  simp only [spec_l01In.f, if_dec]

-- block sPut
theorem sPut_l (u : Nat) : ∀ (acc : List Int), u < 4611686018427387904 → acc.length + (put u).length ≤ 1000000 → Ev (fun k => spec_PutNumber.l0 k acc (u : Int)) (acc ++ put u) := by
  induction u using Nat.strongRecOn with
  | _ u ih =>
    intro acc hu ha
    by_cases h : u < 128
    · refine ev_now fun k => ?_
      simp only [spec_PutNumber.l0]
      rw [if_neg (by omega), if_pos (by omega), put_small h, show ((u : Int)) % 256 = u by omega]
    · rw [put_big (by omega)] at ha ⊢
      refine Ev.step (fun k => ?_) (Ev.congr (fun k => rfl) (ih (u / 128) (by omega) (acc ++ [((u % 128 + 128 : Nat) : Int)]) (by omega) (by simp at ha ⊢; omega))) |> fun h => by simpa using h
      simp only [spec_PutNumber.l0]
      rw [if_pos (by omega), if_pos (by omega), Int.tmod_eq_emod_of_nonneg (by omega), Int.tdiv_eq_ediv_of_nonneg (by omega), w64 (by omega) (by omega), w64 (by omega) (by omega)]
      rw [show (128 + (u : Int) % 128) % 256 = ((u % 128 + 128 : Nat) : Int) by omega, show (u : Int) / 128 = ((u / 128 : Nat) : Int) by omega]
theorem sPut_ev (x : Int) (hx : (Lit.int .i64 x).wf = true) : Ev (fun k => spec_PutNumber.f k x) (putOf x) := by
  unfold putOf
  by_cases h : isWord x
  · have hz := zz_lt h
    have hl := put_len (zz x) 5 (by omega)
    rw [if_pos h]
    have key := sPut_l (zz x) [] (by omega) (by simp; omega)
    unfold isWord at h
    refine Ev.congr (fun k => ?_) (Ev.step (g := fun k => spec_PutNumber.j0 k [] (zz x : Int)) (fun k => rfl) key)
    simp only [spec_PutNumber.f, in_eq, Option.bind_some, decide_eq_true_eq]
    rw [if_pos h]
    by_cases hn : x < 0
    · rw [if_pos hn, w64 (x := -2 * x) (by omega) (by omega), w64 (by omega) (by omega), show -2 * x - 1 = (zz x : Int) by unfold zz; omega]
    · rw [if_neg hn, w64 (by omega) (by omega), show 2 * x = (zz x : Int) by unfold zz; omega]
  · rw [if_neg h]
    refine ev_some fun k => ?_
    unfold isWord at h
    simp only [spec_PutNumber.f, in_eq, Option.bind_some, decide_eq_true_eq]
    rw [if_neg h]

-- block iTake
theorem iTake_l (l : List Int) (hn : l.length ≤ 140737488355328) (hb : isB l) (p : Nat) (hp : p ≤ 4611686018427387904) : ∀ (d k u : Nat), k + d = 7 → u < 128 ^ k →
    Ev (fun n => impl_takeNumber.l0 n l (p : Int) (u : Int) (k : Int)) (tkR p (tkL d (l.drop (p + k)) k u)) := by
  intro d
  induction d with
  | zero =>
    intro k u hk hu
    refine ⟨2, fun n hn' => ?_⟩
    obtain ⟨n, rfl⟩ : ∃ m, n = m + 2 := ⟨n - 2, by omega⟩
    simp only [impl_takeNumber.l0, impl_takeNumber.j1]
    rw [if_neg (by omega), if_neg (by decide)]
    rfl
  | succ d ih =>
    intro k u hk hu
    have h42 : 128 ^ k ≤ 4398046511104 := Nat.pow_le_pow_right (n := 128) (i := k) (j := 6) (by omega) (by omega)
    have hB : ∀ c : Nat, c < 128 → Go.bits .or .i64 (u : Int) (shl .i64 (c : Int) ((7 * k : Nat) : Int)) = ((128 ^ k * c + u : Nat) : Int) := by
      intro c hc
      have e7 : 128 ^ k = 2 ^ (7 * k) := by rw [Nat.pow_mul]
      rw [e7]
      exact bits_or u c (7 * k) (by omega) (by rw [← e7]; exact hu) hc
    have hI : ∀ c, c < 128 → 128 ^ k * c + u < 128 ^ (k + 1) := by
      intro c hc
      rw [Nat.pow_succ]
      have := Nat.mul_le_mul (Nat.le_refl (128 ^ k)) (show c ≤ 127 by omega)
      omega
    have hJ : ∀ c, c < 128 → 128 ^ k * c + u ≤ 562949953421312 := by
      intro c hc
      have := Nat.mul_le_mul (Nat.le_refl (128 ^ k)) (show c ≤ 127 by omega)
      omega
    clear h42 hu
    by_cases hl : p + k < l.length
    · have hc := isB_at hb hl
      rw [List.drop_eq_getElem_cons hl]
      obtain ⟨c, hce⟩ : ∃ c : Nat, l[p + k] = (c : Int) := ⟨l[p + k].toNat, by omega⟩
      rw [hce] at hc ⊢
      have h1 : wrap64 ((p : Int) + (k : Int)) = ((p + k : Nat) : Int) := by rw [w64 (by omega) (by omega)]; omega
      have h2 : wrap64 (7 * (k : Int)) = ((7 * k : Nat) : Int) := by rw [w64 (by omega) (by omega)]; omega
      have h3 : rd l ((p + k : Nat) : Int) = (c : Int) := by rw [rd_eq hl, hce]
      have h4 : wrap64 (c : Int) = (c : Int) := w64 (by omega) (by omega)
      have h5 : Int.tmod (c : Int) 128 = ((c % 128 : Nat) : Int) := by rw [Int.tmod_eq_emod_of_nonneg (by omega)]; omega
      have h6 := hB (c % 128) (by omega)
      have hv1 := hI (c % 128) (by omega)
      have hv2 := hJ (c % 128) (by omega)
      clear hB hI hJ
      obtain ⟨v, hv⟩ : ∃ v, v = 128 ^ k * (c % 128) + u := ⟨_, rfl⟩
      rw [← hv] at h6 hv1 hv2
      have h8 : (k : Int) < 7 := by omega
      have h9 : ((p + k : Nat) : Int) < (l.length : Int) := by omega
      have h10 : 0 ≤ ((p + k : Nat) : Int) := by omega
      have h11 : 0 ≤ ((7 * k : Nat) : Int) := by omega
      by_cases hbig : 128 ≤ (c : Int)
      · have key := ih (k + 1) v (by omega) hv1
        have et : tkL (d + 1) ((c : Int) :: l.drop (p + k + 1)) k u = tkL d (l.drop (p + (k + 1))) (k + 1) v := by
          simp only [tkL]
          rw [if_pos hbig, Int.toNat_natCast, ← hv]
          rfl
        rw [et]
        refine Ev.step (f := fun n => impl_takeNumber.j1 n l p u k true) (fun n => ?_) (Ev.step (fun n => ?_) key)
        · simp only [impl_takeNumber.l0, h1, h8, h9, decide_true, if_true]
        · simp only [impl_takeNumber.j1, h1, h2, h3, h4, h5, h6, h9, h10, h11, if_true, wsucc (show k < 9223372036854775807 by omega)]
          rw [if_pos hbig]
      · refine Ev.step (f := fun n => impl_takeNumber.j1 n l p u k true) (fun n => ?_) (ev_now fun n => ?_)
        · simp only [impl_takeNumber.l0, h1, h8, h9, decide_true, if_true]
        · simp only [impl_takeNumber.j1, h1, h2, h3, h4, h5, h6, h9, h10, h11, if_true]
          rw [if_neg hbig]
          simp only [tkL]
          rw [if_neg hbig, Int.toNat_natCast, ← hv]
          clear h1 h2 h3 h4 h5 h6 hv hv1 hbig hb ih hce
          have q0 : ((k : Int) > 0) = (0 < k) := by simp
          have q5 : isWord (unzz v) = (¬ unzz v < -1099511627776 ∧ ¬ unzz v > 1099511627776) := by unfold isWord; apply propext; omega
          simp only [q5]
          have g1 : wrap64 ((v : Int) + 1) = ((v + 1 : Nat) : Int) := wsucc (by omega)
          have g2 : wrap64 (((p + k : Nat) : Int) + 1) = ((p + (k + 1) : Nat) : Int) := by rw [w64 (by omega) (by omega)]; omega
          by_cases hodd : v % 2 = 1
          · have g3 : wrap64 (Int.tdiv (wrap64 (-((v + 1 : Nat) : Int))) 2) = unzz v := by
              unfold unzz
              rw [if_pos hodd, w64 (x := -((v + 1 : Nat) : Int)) (by omega) (by omega), Int.neg_tdiv, Int.tdiv_eq_ediv_of_nonneg (by omega), w64 (by omega) (by omega)]
              omega
            have g4 : Int.tmod (v : Int) 2 = 1 := by rw [Int.tmod_eq_emod_of_nonneg (by omega)]; omega
            simp only [g1, g2, g3, g4, q0, if_true]
            clear q0 q5 g1 g2 g3 g4
            by_cases q1 : (c : Int) = 0 <;> by_cases q2 : 0 < k <;> by_cases q3 : unzz v < -1099511627776 <;> by_cases q4 : unzz v > 1099511627776 <;> simp only [q1, q2, q3, q4, if_true, if_false, and_true, and_false, false_and, true_and, not_true, not_false_iff, tkR]
          · have g3 : wrap64 (Int.tdiv (v : Int) 2) = unzz v := by
              unfold unzz
              rw [if_neg hodd, Int.tdiv_eq_ediv_of_nonneg (by omega), w64 (by omega) (by omega)]
              omega
            have g4 : ¬ Int.tmod (v : Int) 2 = 1 := by rw [Int.tmod_eq_emod_of_nonneg (by omega)]; omega
            simp only [g2, g3, g4, q0, if_false]
            clear q0 q5 g1 g2 g3 g4
            by_cases q1 : (c : Int) = 0 <;> by_cases q2 : 0 < k <;> by_cases q3 : unzz v < -1099511627776 <;> by_cases q4 : unzz v > 1099511627776 <;> simp only [q1, q2, q3, q4, if_true, if_false, and_true, and_false, false_and, true_and, not_true, not_false_iff, tkR]
    · rw [List.drop_eq_nil_of_le (by omega)]
      have h1 : ¬ wrap64 ((p : Int) + (k : Int)) < (l.length : Int) := by rw [w64 (by omega) (by omega)]; omega
      refine ⟨2, fun n hn' => ?_⟩
      obtain ⟨n, rfl⟩ : ∃ m, n = m + 2 := ⟨n - 2, by omega⟩
      simp only [impl_takeNumber.l0, impl_takeNumber.j1, h1, decide_false]
      rw [if_pos (by omega), if_neg (by decide)]
      rfl
/-- What is read at a place of a row of bytes. -/
def takeAt (l : List Int) (p : Nat) : Int × Int × Bool := tkR p (tkL 7 (l.drop p) 0 0)
theorem iTake_ev (l : List Int) (hn : l.length ≤ 140737488355328) (hb : isB l) (p : Nat) (hp : p ≤ 4611686018427387904) : Ev (fun n => impl_takeNumber.f n l (p : Int)) (takeAt l p) := by
  refine Ev.congr (fun n => ?_) (iTake_l l hn hb p hp 7 0 0 (by omega) (by omega))
  simp only [impl_takeNumber.f]
  rw [if_neg (by omega)]
  rfl

-- block iTakeN
theorem iTakeN_ev (l : List Int) (hn : l.length ≤ 140737488355328) (hb : isB l) (p : Nat) (hp : p ≤ 4611686018427387904) : Ev (fun n => impl_TakeNumber.f n l (p : Int)) (takeAt l p) := by
  refine Ev.congr (fun n => ?_) (iTake_ev l hn hb p hp)
  simp only [impl_TakeNumber.f]
  cases impl_takeNumber.f n l p <;> rfl

-- block bitP
def bitF : Nat → Nat → Nat
  | 0, _ => 0
  | d + 1, x => if x = 0 then 0 else 1 + bitF d (x / 2)
/-- How many bits a number has. -/
def bitB (x : Nat) : Nat := bitF 21 x
theorem u64_nat {n : Nat} (h : n < 9223372036854775808) : IntKind.u64.wrap (n : Int) = (n : Int) := by
  unfold IntKind.wrap
  have e : (n : Int) % 2 ^ IntKind.u64.bits = n := by show (n : Int) % 2 ^ 64 = n; omega
  rw [e]
  refine if_neg ?_
  show ¬ ((false && _) = true)
  simp

-- block sSame
theorem sSame_l (a b : List Int) (hn : a.length ≤ 1048576) (hab : a.length = b.length) : ∀ (d i : Nat), a.length - i = d → i ≤ a.length → Ev (fun k => spec_l01Same.l0 k a b (i : Int)) (decide (a.drop i = b.drop i)) := by
  intro d
  induction d with
  | zero =>
    intro i h hi
    refine ev_now fun k => ?_
    simp only [spec_l01Same.l0]
    rw [if_neg (by omega), List.drop_of_length_le (by omega), List.drop_of_length_le (by omega)]
    simp
  | succ d ih =>
    intro i h hi
    have h1 : i < a.length := by omega
    have h2 : i < b.length := by omega
    rw [List.drop_eq_getElem_cons h1, List.drop_eq_getElem_cons h2]
    by_cases he : a[i] = b[i]
    · rw [show decide (a[i] :: a.drop (i + 1) = b[i] :: b.drop (i + 1)) = decide (a.drop (i + 1) = b.drop (i + 1)) from decide_eq_decide.2 ⟨fun h => by injection h, fun h => by rw [he, h]⟩]
      refine Ev.step (fun k => ?_) (ih (i + 1) (by omega) (by omega))
      simp only [spec_l01Same.l0]
      rw [if_pos (by omega), if_pos (by omega), if_pos (by omega), rd_eq h1, rd_eq h2, if_pos he, wsucc (by omega)]
    · rw [decide_eq_false (fun h => he (by injection h))]
      refine ev_now fun k => ?_
      simp only [spec_l01Same.l0]
      rw [if_pos (by omega), if_pos (by omega), if_pos (by omega), rd_eq h1, rd_eq h2, if_neg he]
theorem sSame_ev (a b : List Int) (hn : a.length ≤ 1048576) : Ev (fun k => spec_l01Same.f k a b) (decide (a = b)) := by
  by_cases hab : a.length = b.length
  · refine Ev.congr (fun k => ?_) (sSame_l a b hn hab a.length 0 (by omega) (by omega))
    simp only [spec_l01Same.f]
    rw [if_pos (by omega)]
    rfl
  · rw [decide_eq_false (fun h => hab (by rw [h]))]
    refine ev_some fun k => ?_
    simp only [spec_l01Same.f]
    rw [if_neg (by omega)]

-- block sTake
theorem tk_w {p k n : Nat} (h : p + k < n) (hn : n ≤ 1048576) (hk : k ≤ 6) : wrap64 ((p : Int) + (k : Int)) = ((p + k : Nat) : Int) ∧ wrap64 (7 * (k : Int)) = ((7 * k : Nat) : Int) ∧ IntKind.u64.wrap ((7 * k : Nat) : Int) = ((7 * k : Nat) : Int) ∧ wrap64 ((k : Int) + 1) = ((k + 1 : Nat) : Int) ∧ wrap64 (((p + k : Nat) : Int) + 1) = ((p + k + 1 : Nat) : Int) ∧ wrap64 ((n : Int) - (p : Int)) = ((n - p : Nat) : Int) :=
  ⟨w64n (by omega) (by omega), w64n (by omega) (by omega), u64_nat (by omega), wsucc (by omega), wsucc (by omega), w64n (by omega) (by omega)⟩
theorem tk_c {c : Nat} (h : c ≤ 255) : wrap64 ((c : Nat) : Int) = ((c : Nat) : Int) ∧ Int.tmod ((c : Nat) : Int) 128 = ((c % 128 : Nat) : Int) :=
  ⟨w64n rfl (by omega), by rw [Int.tmod_eq_emod_of_nonneg (by omega)]; omega⟩
theorem tk_v {u a v : Nat} (hv : v = a + u) (h : v ≤ 8796093022208) : wrap64 ((u : Int) + (a : Int)) = (v : Int) := w64n (by rw [hv]; omega) (by omega)
theorem tk_z {v : Nat} (h : v ≤ 8796093022208) : (if Int.tmod (v : Int) 2 = 1 then wrap64 (wrap64 (-(wrap64 (Int.tdiv (v : Int) 2))) - 1) else wrap64 (Int.tdiv (v : Int) 2)) = unzz v := by
  rw [Int.tmod_eq_emod_of_nonneg (by omega), Int.tdiv_eq_ediv_of_nonneg (by omega)]
  unfold unzz
  by_cases ho : v % 2 = 1
  · rw [if_pos (by omega), if_pos ho, w64 (x := (v : Int) / 2) (by omega) (by omega), w64 (x := -((v : Int) / 2)) (by omega) (by omega), w64 (by omega) (by omega)]; omega
  · rw [if_neg (by omega), if_neg ho, w64 (x := (v : Int) / 2) (by omega) (by omega)]; omega
theorem sTake_l (l : List Int) (hn : l.length ≤ 1048576) (hb : isB l) (p : Nat) (hp : p ≤ l.length) : ∀ (d k u : Nat), k + d = 6 → p + k ≤ l.length → u < 128 ^ k → (∀ w, 1 ≤ w → put (128 ^ k * w + u) = (l.drop p).take k ++ put w) →
    Ev (fun n => spec_TakeNumber.l0 n l (p : Int) (u : Int) (k : Int)) (tkR p (tkL (d + 1) (l.drop (p + k)) k u)) := by
  intro d
  induction d with
  | zero =>
    intro k u hk hpk hu hput
    have ek : k = 6 := by omega
    subst ek
    rw [tkL_seven _ (isB_drop hb _)]
    refine ⟨2, fun n hn' => ?_⟩
    obtain ⟨n, rfl⟩ : ∃ m, n = m + 2 := ⟨n - 2, by omega⟩
    simp only [spec_TakeNumber.l0, spec_TakeNumber.j2]
    rw [if_neg (by omega), if_neg (by decide)]
    rfl
  | succ d ih =>
    intro k u hk hpk hu hput
    have h42 : 128 ^ k ≤ 34359738368 := Nat.pow_le_pow_right (n := 128) (i := k) (j := 5) (by omega) (by omega)
    have h27 : 2 ^ (7 * k) = 128 ^ k := by rw [Nat.pow_mul]
    by_cases hl : p + k < l.length
    · obtain ⟨c, hc⟩ := Int.eq_ofNat_of_zero_le (isB_at hb hl).1
      have hc2 := (isB_at hb hl).2
      rw [hc] at hc2
      have hrd : rd l ((p + k : Nat) : Int) = (c : Int) := by rw [rd_eq hl, hc]
      rw [List.drop_eq_getElem_cons hl, hc]
      have hmul : 128 ^ k * (c % 128) ≤ 34359738368 * 127 := Nat.mul_le_mul h42 (by omega)
      have hsh : shl .i64 ((c % 128 : Nat) : Int) ((7 * k : Nat) : Int) = ((128 ^ k * (c % 128) : Nat) : Int) := by rw [shl_mul _ _ (by omega) (by omega), h27]
      obtain ⟨v, hv⟩ : ∃ v, v = 128 ^ k * (c % 128) + u := ⟨_, rfl⟩
      have htk : (l.drop p).take (k + 1) = (l.drop p).take k ++ [(c : Int)] := by
        rw [List.take_add_one, List.getElem?_drop, List.getElem?_eq_getElem hl, hc]; rfl
      have hlen : ((l.drop p).take k).length = k := by rw [List.length_take, List.length_drop]; omega
      obtain ⟨c1, c2, c3, c4, c5⟩ : (k : Int) < 6 ∧ ((k : Int) < ((l.length - p : Nat) : Int)) ∧ 0 ≤ ((p + k : Nat) : Int) ∧ ((p + k : Nat) : Int) < (l.length : Int) ∧ 0 ≤ ((7 * k : Nat) : Int) := by
        exact ⟨by omega, by omega, by omega, by omega, by omega⟩
      have hc2' : c ≤ 255 := by omega
      have hv43 : v ≤ 8796093022208 := by omega
      by_cases hge : 128 ≤ c
      · have key := ih (k + 1) v (by omega) (by omega) (by
            rw [Nat.pow_succ, hv]
            have : 128 ^ k * (c % 128) + u < 128 ^ k * (c % 128) + 128 ^ k := by omega
            have h2 : 128 ^ k * (c % 128) + 128 ^ k = 128 ^ k * (c % 128 + 1) := by rw [Nat.mul_add, Nat.mul_one]
            have h3 : 128 ^ k * (c % 128 + 1) ≤ 128 ^ k * 128 := Nat.mul_le_mul (Nat.le_refl _) (by omega)
            omega) (by
            intro w hw
            have e1 : 128 ^ (k + 1) * w + v = 128 ^ k * (128 * w + c % 128) + u := by
              rw [hv, Nat.pow_succ, Nat.mul_add, Nat.mul_assoc, Nat.add_assoc]
            rw [e1, hput _ (by omega), put_big (by omega), htk, List.append_assoc]
            congr 1
            rw [show (128 * w + c % 128) % 128 + 128 = c by omega, show (128 * w + c % 128) / 128 = w by omega]
            rfl)
        rw [← Nat.add_assoc] at key
        have et : tkL (d + 1 + 1) ((c : Int) :: l.drop (p + k + 1)) k u = tkL (d + 1) (l.drop (p + k + 1)) (k + 1) v := by
          rw [tkL, if_pos (by omega), Int.toNat_natCast, ← hv]
        rw [et]
        have c6 : (c : Int) ≥ 128 := by omega
        obtain ⟨w1, w2, w3, w7, w8, w9⟩ := tk_w (p := p) (k := k) hl hn (by omega)
        obtain ⟨w4, w5⟩ := tk_c hc2'
        have w6 := tk_v hv hv43
        refine Ev.step (fun n => ?_) (Ev.step (g := fun n => spec_TakeNumber.j2 n l (p : Int) (u : Int) (k : Int) true) (fun n => ?_) key)
        · simp only [spec_TakeNumber.l0, w9, c1, if_true, decide_eq_true c2]
        · simp only [spec_TakeNumber.j2, w1, w2, w3, hrd, w4, w5, hsh, w6, w7, c3, c4, c5, c6, if_true]
      · have c6 : ¬ ((c : Int) ≥ 128) := by omega
        have hcm : c % 128 = c := Nat.mod_eq_of_lt (by omega)
        -- whether the bytes are the shortest ones
        have hcan : (put v = (l.drop p).take (k + 1)) ↔ ¬ ((c : Int) = 0 ∧ 0 < k) := by
          rw [htk]
          constructor
          · rintro h ⟨hc0, hk0⟩
            have hc0' : c = 0 := by omega
            rw [hc0', Nat.zero_mod, Nat.mul_zero, Nat.zero_add] at hv
            obtain ⟨q, rfl⟩ : ∃ q, k = q + 1 := ⟨k - 1, by omega⟩
            have := put_len v q (by rw [hv]; exact hu)
            rw [h, List.length_append, hlen] at this
            simp at this
            omega
          · intro h
            by_cases hk0 : k = 0
            · subst hk0
              rw [show v = c by rw [hv, hcm]; simp at hu; rw [hu]; simp, put_small (by omega)]
              simp
            · have hc1 : 1 ≤ c := by
                by_cases hc0 : c = 0
                · exact absurd ⟨by omega, by omega⟩ h
                · omega
              rw [hv, hcm, hput c hc1, put_small (by omega)]
        have et : tkL (d + 1 + 1) ((c : Int) :: l.drop (p + k + 1)) k u = if (c : Int) = 0 ∧ 0 < k then none else if isWord (unzz v) then some (unzz v, k + 1) else none := by
          rw [tkL, if_neg (by omega), Int.toNat_natCast, ← hv]
        rw [et]
        have hzb : -8796093022209 ≤ unzz v ∧ unzz v ≤ 8796093022209 := by
          unfold unzz
          split <;> omega
        have hsl : (l.take (p + k + 1)).drop p = (l.drop p).take (k + 1) := by rw [List.drop_take]; congr 1; omega
        have hcond : (putOf (unzz v) = (l.drop p).take (k + 1)) ↔ (¬ ((c : Int) = 0 ∧ 0 < k) ∧ isWord (unzz v)) := by
          by_cases hw : isWord (unzz v)
          · unfold putOf
            rw [if_pos hw, zz_unzz, hcan]
            exact ⟨fun h => ⟨h, hw⟩, fun h => h.1⟩
          · unfold putOf
            rw [if_neg hw]
            refine ⟨fun h => ?_, fun h => absurd h.2 hw⟩
            rw [htk] at h
            exact absurd h.symm (by simp)
        have hpl : (putOf (unzz v)).length ≤ 1048576 := Nat.le_trans (putOf_len _) (by omega)
        obtain ⟨m, e1, e2⟩ := evs2 (sPut_ev (unzz v) (i64_wf (by omega) (by omega))) (sSame_ev (putOf (unzz v)) ((l.drop p).take (k + 1)) hpl)
        obtain ⟨b1, b2, b3, b4⟩ : 0 ≤ (p : Int) ∧ (p : Int) ≤ ((p + k + 1 : Nat) : Int) ∧ ((p + k + 1 : Nat) : Int) ≤ (l.length : Int) ∧ (p + k + 1 : Nat) = p + (k + 1) := by
          exact ⟨by omega, by omega, by omega, by omega⟩
        refine ⟨m + 3, fun n hn' => ?_⟩
        obtain ⟨n, rfl⟩ : ∃ q, n = m + q + 3 := ⟨n - m - 3, by omega⟩
        obtain ⟨w1, w2, w3, w7, w8, w9⟩ := tk_w (p := p) (k := k) hl hn (by omega)
        obtain ⟨w4, w5⟩ := tk_c hc2'
        have w6 := tk_v hv hv43
        have hz := tk_z hv43
        have hj3 : spec_TakeNumber.j3 (m + n + 1) l (p : Int) (k : Int) (unzz v) = some (tkR p (if (c : Int) = 0 ∧ 0 < k then none else if isWord (unzz v) then some (unzz v, k + 1) else none)) := by
          simp only [spec_TakeNumber.j3, e1 n, Option.bind_some, w1, w8, b1, b2, b3, if_true, Int.toNat_natCast, hsl, e2 n]
          by_cases hx : ¬ ((c : Int) = 0 ∧ 0 < k) ∧ isWord (unzz v)
          · rw [decide_eq_true (hcond.2 hx), if_pos rfl, if_neg hx.1, if_pos hx.2]
            simp only [tkR, b4]
          · rw [decide_eq_false (fun h => hx (hcond.1 h)), if_neg (by decide)]
            by_cases hx1 : (c : Int) = 0 ∧ 0 < k
            · rw [if_pos hx1]; rfl
            · rw [if_neg hx1, if_neg (fun h => hx ⟨hx1, h⟩)]; rfl
        rw [show m + n + 3 = m + n + 1 + 1 + 1 from rfl]
        simp only [spec_TakeNumber.l0, spec_TakeNumber.j2, w9, c1, decide_eq_true c2, w1, w2, w3, hrd, w4, w5, hsh, w6, c3, c4, c5, c6, if_true, if_false]
        rw [← hj3, ← hz]
        split <;> rfl
    · rw [List.drop_eq_nil_of_le (by omega)]
      refine ⟨2, fun n hn' => ?_⟩
      obtain ⟨n, rfl⟩ : ∃ m, n = m + 2 := ⟨n - 2, by omega⟩
      obtain ⟨c1, c2⟩ : (k : Int) < 6 ∧ ¬ ((k : Int) < ((l.length - p : Nat) : Int)) := ⟨by omega, by omega⟩
      have w9 : wrap64 ((l.length : Int) - (p : Int)) = ((l.length - p : Nat) : Int) := w64n (by omega) (by omega)
      simp only [spec_TakeNumber.l0, spec_TakeNumber.j2, w9, c1, if_true, decide_eq_false c2, Bool.false_eq_true, if_false]
      rfl
/-- What is read at any place. -/
def takeI (l : List Int) (a : Int) : Int × Int × Bool := if a < 0 then (0, 0, false) else tkR a.toNat (tkL 7 (l.drop a.toNat) 0 0)
theorem sTake_ev (l : List Int) (hn : l.length ≤ 1048576) (hb : isB l) (a : Int) : Ev (fun n => spec_TakeNumber.f n l a) (takeI l a) := by
  unfold takeI
  by_cases h0 : a < 0
  · rw [if_pos h0]
    refine ev_now fun n => ?_
    simp only [spec_TakeNumber.f, spec_TakeNumber.j0]
    rw [if_pos h0, if_pos trivial]
  · obtain ⟨p, rfl⟩ := Int.eq_ofNat_of_zero_le (show 0 ≤ a by omega)
    rw [if_neg h0, Int.toNat_natCast]
    by_cases h1 : p < l.length
    · have key := sTake_l l hn hb p (by omega) 6 0 0 (by omega) (by omega) (by simp) (by intro w hw; simp)
      refine Ev.congr (f := fun n => spec_TakeNumber.j0 n l (p : Int) false) (fun n => ?_) (Ev.step (fun n => ?_) key)
      · simp only [spec_TakeNumber.f]
        rw [if_neg h0, decide_eq_false (by omega)]
      · simp only [spec_TakeNumber.j0, Bool.false_eq_true, if_false]
        rfl
    · rw [List.drop_eq_nil_of_le (by omega)]
      refine ev_now fun n => ?_
      simp only [spec_TakeNumber.f, spec_TakeNumber.j0]
      rw [if_neg h0, decide_eq_true (by omega), if_pos rfl]
      rfl

-- block iTakeI
theorem iTakeI_ev (l : List Int) (hn : l.length ≤ 1048576) (hb : isB l) (a : Int) (ha : a ≤ 9223372036854775807) : Ev (fun n => impl_TakeNumber.f n l a) (takeI l a) := by
  unfold takeI
  by_cases h0 : a < 0
  · rw [if_pos h0]
    refine ev_some fun n => ?_
    simp only [impl_TakeNumber.f, impl_takeNumber.f, h0, if_true, Option.bind_some]
  · obtain ⟨p, rfl⟩ := Int.eq_ofNat_of_zero_le (show 0 ≤ a by omega)
    rw [if_neg h0, Int.toNat_natCast]
    by_cases h1 : p ≤ 1048576
    · exact iTakeN_ev l (by omega) hb p (by omega)
    · rw [List.drop_eq_nil_of_le (by omega)]
      have w1 : wrap64 ((p : Int) + 0) = (p : Int) := w64n (by omega) (by omega)
      refine ⟨2, fun n hn' => ?_⟩
      obtain ⟨n, rfl⟩ : ∃ m, n = m + 2 := ⟨n - 2, by clear w1; omega⟩
      have h3 : impl_takeNumber.f (n + 2) l (p : Int) = some (0, 0, false) := by
        simp only [impl_takeNumber.f, impl_takeNumber.l0, impl_takeNumber.j1, w1]
        rw [if_neg h0, if_pos (by decide), decide_eq_false (by clear w1; omega), if_neg (by decide)]
      simp only [impl_TakeNumber.f, h3, Option.bind_some]
      rfl

end Go.Proofs.Ytgoebfelalapaaa.QFnExactTakeNumber

/- Lemmas on the printed functions of FnNumbers: what each comes to. -/
import Derived.Test.YtjgggiophbnghabPFnNumbersx
import Derived.Test.YtjgggiophbnghabNtt
namespace Go.Proofs.Ytjgggiophbnghab.QFnNumbers
open Go.RowKit Go.Proofs.Ytjgggiophbnghab.PFnNumbers Go.Proofs.YtjgggiophbnghabW.PrintWords Go.Proofs.YtjgggiophbnghabW.PrintLast Go.Proofs.Ytjgggiophbnghab.Math
set_option linter.unusedVariables false
set_option linter.unusedSimpArgs false

-- block iPut
theorem iPut_l (u : Nat) : ∀ (acc : List Int), u < 4611686018427387904 → acc.length + (put u).length ≤ 1000000 → Ev (fun k => impl_putNumber.l0 k (u : Int) acc) (acc ++ put u) := by
  induction u using Nat.strongRecOn with
  | _ u ih =>
    intro acc hu ha
    by_cases h : u < 128
    · refine ev_now fun k => ?_
      simp only [impl_putNumber.l0]
      rw [if_neg (by omega), if_pos (by omega), put_small h, show ((u : Int)) % 256 = u by omega]
    · rw [put_big (by omega)] at ha ⊢
      refine Ev.step (fun k => ?_) (Ev.congr (fun k => rfl) (ih (u / 128) (by omega) (acc ++ [((u % 128 + 128 : Nat) : Int)]) (by omega) (by simp at ha ⊢; omega))) |> fun h => by simpa using h
      simp only [impl_putNumber.l0]
      rw [if_pos (by omega), if_pos (by omega), Int.tmod_eq_emod_of_nonneg (by omega), Int.tdiv_eq_ediv_of_nonneg (by omega), w64 (x := (u : Int) / 128) (by omega) (by omega), w64 (by omega) (by omega)]
      rw [show ((u : Int) % 128 + 128) % 256 = ((u % 128 + 128 : Nat) : Int) by omega, show (u : Int) / 128 = ((u / 128 : Nat) : Int) by omega]
theorem iPut_ev (x : Int) (h : isWord x) : Ev (fun k => impl_putNumber.f k x) (put (zz x)) := by
  have hz := zz_lt h
  have hl := put_len (zz x) 5 (by omega)
  have key := iPut_l (zz x) [] (by omega) (by simp; omega)
  unfold isWord at h
  refine Ev.congr (fun k => ?_) (Ev.step (g := fun k => impl_putNumber.j0 k (zz x : Int)) (fun k => rfl) key)
  simp only [impl_putNumber.f]
  by_cases hn : x < 0
  · rw [if_pos hn, w64 (x := -2 * x) (by omega) (by omega), w64 (by omega) (by omega), show -2 * x - 1 = (zz x : Int) by unfold zz; omega]
  · rw [if_neg hn, w64 (by omega) (by omega), show 2 * x = (zz x : Int) by unfold zz; omega]

-- block iPutN
theorem iPutN_ev (x : Int) : Ev (fun k => impl_PutNumber.f k x) (putOf x) := by
  unfold putOf
  by_cases h : isWord x
  · rw [if_pos h]
    have key := iPut_ev x h
    unfold isWord at h
    refine Ev.congr (fun k => ?_) key
    simp only [impl_PutNumber.f]
    rw [if_neg (by omega), if_neg (by omega)]
    simp
  · rw [if_neg h]
    refine ev_some fun k => ?_
    unfold isWord at h
    simp only [impl_PutNumber.f]
    by_cases h1 : x < -1099511627776
    · rw [if_pos h1]
    · rw [if_neg h1, if_pos (by omega)]

-- block drawByte
/-- A place of a row to draw from, or its end. -/
def dAt (l : List Int) (i : Int) : Prop := 0 ≤ i ∧ i ≤ l.length
theorem drawByte (l : List Int) (hn : l.length ≤ 140737488355328) (i h : Int) (hi : dAt l i) : ∃ b i' h', spec_l01Byte.f l i h = some (b, i', h') ∧ (0 ≤ b ∧ b ≤ 255) ∧ dAt l i' := by
  unfold dAt at hi ⊢
  simp only [spec_l01Byte.f]
  by_cases hl : i < (l.length : Int)
  · rw [if_pos hl, if_pos hi.1]
    exact ⟨_, _, _, rfl, bits_and _ 255 (by decide), by rw [w64 (by omega) (by omega)]; omega⟩
  · rw [if_neg hl]
    exact ⟨_, _, _, rfl, bits_and _ 255 (by decide), hi⟩

-- block drawBelow
theorem drawBelow (l : List Int) (hn : l.length ≤ 140737488355328) (i h : Int) (hi : dAt l i) (m : Int) : ∃ b i' h', spec_l01Below.f l i h m = some (b, i', h') ∧ (0 ≤ b ∧ (b < m ∨ b = 0)) ∧ dAt l i' := by
  simp only [spec_l01Below.f]
  by_cases h0 : m ≤ 0
  · rw [if_pos h0]
    exact ⟨_, _, _, rfl, by omega, hi⟩
  · rw [if_neg h0]
    obtain ⟨b1, i1, h1, e1, r1, d1⟩ := drawByte l hn i h hi
    rw [e1]
    by_cases hm : m ≤ 256
    · rw [if_pos hm, Option.bind_some, if_neg (by omega)]
      refine ⟨_, _, _, rfl, ?_, d1⟩
      simp only
      rw [Int.tmod_eq_emod_of_nonneg (by omega)]
      exact ⟨Int.emod_nonneg _ (by omega), Or.inl (Int.emod_lt_of_pos _ (by omega))⟩
    · rw [if_neg hm, Option.bind_some]
      obtain ⟨b2, i2, h2, e2, r2, d2⟩ := drawByte l hn i1 h1 d1
      rw [e2, Option.bind_some]
      obtain ⟨b3, i3, h3, e3, r3, d3⟩ := drawByte l hn i2 h2 d2
      rw [e3, Option.bind_some, if_neg (by omega)]
      refine ⟨_, _, _, rfl, ?_, d3⟩
      simp only
      rw [w64 (x := b1 * 65536) (by omega) (by omega), w64 (x := b2 * 256) (by omega) (by omega), w64 (x := b1 * 65536 + b2 * 256) (by omega) (by omega), w64 (by omega) (by omega), Int.tmod_eq_emod_of_nonneg (by omega)]
      exact ⟨Int.emod_nonneg _ (by omega), Or.inl (Int.emod_lt_of_pos _ (by omega))⟩

-- block drawPickInt
theorem drawPickInt (l : List Int) (hn : l.length ≤ 140737488355328) (i h : Int) (hi : dAt l i) (xs : List Int) (hx : 0 < xs.length) : ∃ b i' h', spec_l01PickInt.f l i h xs = some (b, i', h') ∧ b ∈ xs ∧ dAt l i' := by
  simp only [spec_l01PickInt.f]
  obtain ⟨b1, i1, h1, e1, r1, d1⟩ := drawBelow l hn i h hi (xs.length : Int)
  rw [e1, Option.bind_some, if_pos r1.1, if_pos (by simp only; omega)]
  refine ⟨_, _, _, rfl, ?_, d1⟩
  simp only
  rw [show b1 = ((b1.toNat : Nat) : Int) by omega]
  exact rd_mem (by omega)

-- block drawNew
theorem drawNew_l (l : List Int) (hn : l.length ≤ 140737488355328) : ∀ (d i : Nat) (h : Int), 4000 - i = d → ∃ h', Ev (fun k => spec_l01New.l0 k l h (i : Int)) (l, 0, h') := by
  intro d
  induction d with
  | zero =>
    intro i h hd
    refine ⟨h, ev_now fun k => ?_⟩
    simp only [spec_l01New.l0]
    split
    · rw [if_neg (by omega)]
    · rfl
  | succ d ih =>
    intro i h hd
    by_cases hl : (i : Int) < (l.length : Int)
    · obtain ⟨h', e⟩ := ih (i + 1) (Go.bits .and .i64 (wrap64 ((wrap64 ((wrap64 (h * 149)) + (wrap64 (rd l i)))) + 11)) 1073741823) (by omega)
      refine ⟨h', Ev.step (fun k => ?_) e⟩
      simp only [spec_l01New.l0]
      rw [if_pos hl, if_pos (by omega), if_pos (by omega), wsucc (by omega)]
    · refine ⟨h, ev_now fun k => ?_⟩
      simp only [spec_l01New.l0]
      rw [if_neg hl]
theorem drawNew (l : List Int) (hn : l.length ≤ 140737488355328) : ∃ h', Ev (fun k => spec_l01New.f k l) (l, 0, h') := by
  obtain ⟨h', e⟩ := drawNew_l l hn 4000 0 (wrap64 (710710 + (l.length : Int))) (by omega)
  exact ⟨h', Ev.congr (fun k => rfl) e⟩
theorem dAt0 (l : List Int) : dAt l 0 := by unfold dAt; omega

-- block cpBytes
theorem cpBytes_l (l : List Int) (hn : l.length < 140737488355328) : ∀ (d i : Nat), l.length - i = d → i ≤ l.length →
    Ev (fun k => laws_cpBytes.l0 k l (l.take i) (i : Int)) l := by
  intro d
  induction d with
  | zero =>
    intro i h hi
    refine ev_now fun k => ?_
    simp only [laws_cpBytes.l0]
    rw [if_neg (by omega), List.take_of_length_le (by omega)]
  | succ d ih =>
    intro i h hi
    refine Ev.step (fun k => ?_) (ih (i + 1) (by omega) (by omega))
    simp only [laws_cpBytes.l0]
    rw [if_pos (by omega), if_pos (by omega), if_pos (by simp; omega), wsucc (by omega), rd_eq (by omega), List.take_append_getElem (by omega)]
theorem cpBytes_ev (l : List Int) (hn : l.length < 140737488355328) : Ev (fun k => laws_cpBytes.f k l) l :=
  Ev.congr (fun k => rfl) (cpBytes_l l hn l.length 0 (by omega) (by omega))

-- block lawsAt
theorem lawsAt (l : List Int) (n : Nat) : ∃ v, laws_at.f l (n : Int) = some v := by
  simp only [laws_at.f]
  split
  · rw [if_pos (by omega)]; exact ⟨_, rfl⟩
  · exact ⟨_, rfl⟩

-- block drawPutNumber
theorem drawPutNumber (l : List Int) (hn : l.length ≤ 140737488355328) : ∃ x, Ev (fun k => spec_DrawPutNumber.f k l) x := by
  obtain ⟨h0, K, e0⟩ := drawNew l hn
  obtain ⟨b1, i1, h1, e1, r1, d1⟩ := drawBelow l hn 0 h0 (dAt0 l) 16777216
  obtain ⟨b2, i2, h2, e2, r2, d2⟩ := drawBelow l hn i1 h1 d1 16777216
  obtain ⟨b3, i3, h3, e3, r3, d3⟩ := drawPickInt l hn i2 h2 d2 [0, 1, (-1), 63, 64, (-64), (-65), 8191, 8192, (-8192), (-8193), b1, wrap64 (-b2), 1099511627776, (-1099511627776), 1099511627777, (-1099511627777)] (by simp)
  refine ⟨b3, K, fun k hk => ?_⟩
  simp only [spec_DrawPutNumber.f, e0 k hk, e1, e2, e3, Option.bind_some]

-- block iTake
theorem iTake_l (l : List Int) (hn : l.length ≤ 140737488355328) (hb : isB l) (p : Nat) (hp : p ≤ 4611686018427387904) : ∀ (d k u : Nat), k + d = 7 → u < 128 ^ k →
    Ev (fun n => impl_takeNumber.l0 n l (p : Int) (u : Int) (k : Int)) (tkR p (tkL d (l.drop (p + k)) k u)) := by
  intro d
  induction d with
  | zero =>
    intro k u hk hu
    refine ⟨2, fun n hn' => ?_⟩
    obtain ⟨n, rfl⟩ : ∃ m, n = m + 2 := ⟨n - 2, by omega⟩
    simp only [impl_takeNumber.l0, impl_takeNumber.j1]
    rw [if_neg (by omega), if_neg (by decide)]
    rfl
  | succ d ih =>
    intro k u hk hu
    have h42 : 128 ^ k ≤ 4398046511104 := Nat.pow_le_pow_right (n := 128) (i := k) (j := 6) (by omega) (by omega)
    have hB : ∀ c : Nat, c < 128 → Go.bits .or .i64 (u : Int) (shl .i64 (c : Int) ((7 * k : Nat) : Int)) = ((128 ^ k * c + u : Nat) : Int) := by
      intro c hc
      have e7 : 128 ^ k = 2 ^ (7 * k) := by rw [Nat.pow_mul]
      rw [e7]
      exact bits_or u c (7 * k) (by omega) (by rw [← e7]; exact hu) hc
    have hI : ∀ c, c < 128 → 128 ^ k * c + u < 128 ^ (k + 1) := by
      intro c hc
      rw [Nat.pow_succ]
      have := Nat.mul_le_mul (Nat.le_refl (128 ^ k)) (show c ≤ 127 by omega)
      omega
    have hJ : ∀ c, c < 128 → 128 ^ k * c + u ≤ 562949953421312 := by
      intro c hc
      have := Nat.mul_le_mul (Nat.le_refl (128 ^ k)) (show c ≤ 127 by omega)
      omega
    clear h42 hu
    by_cases hl : p + k < l.length
    · have hc := isB_at hb hl
      rw [List.drop_eq_getElem_cons hl]
      obtain ⟨c, hce⟩ : ∃ c : Nat, l[p + k] = (c : Int) := ⟨l[p + k].toNat, by omega⟩
      rw [hce] at hc ⊢
      have h1 : wrap64 ((p : Int) + (k : Int)) = ((p + k : Nat) : Int) := by rw [w64 (by omega) (by omega)]; omega
      have h2 : wrap64 (7 * (k : Int)) = ((7 * k : Nat) : Int) := by rw [w64 (by omega) (by omega)]; omega
      have h3 : rd l ((p + k : Nat) : Int) = (c : Int) := by rw [rd_eq hl, hce]
      have h4 : wrap64 (c : Int) = (c : Int) := w64 (by omega) (by omega)
      have h5 : Int.tmod (c : Int) 128 = ((c % 128 : Nat) : Int) := by rw [Int.tmod_eq_emod_of_nonneg (by omega)]; omega
      have h6 := hB (c % 128) (by omega)
      have hv1 := hI (c % 128) (by omega)
      have hv2 := hJ (c % 128) (by omega)
      clear hB hI hJ
      obtain ⟨v, hv⟩ : ∃ v, v = 128 ^ k * (c % 128) + u := ⟨_, rfl⟩
      rw [← hv] at h6 hv1 hv2
      have h8 : (k : Int) < 7 := by omega
      have h9 : ((p + k : Nat) : Int) < (l.length : Int) := by omega
      have h10 : 0 ≤ ((p + k : Nat) : Int) := by omega
      have h11 : 0 ≤ ((7 * k : Nat) : Int) := by omega
      by_cases hbig : 128 ≤ (c : Int)
      · have key := ih (k + 1) v (by omega) hv1
        have et : tkL (d + 1) ((c : Int) :: l.drop (p + k + 1)) k u = tkL d (l.drop (p + (k + 1))) (k + 1) v := by
          simp only [tkL]
          rw [if_pos hbig, Int.toNat_natCast, ← hv]
          rfl
        rw [et]
        refine Ev.step (f := fun n => impl_takeNumber.j1 n l p u k true) (fun n => ?_) (Ev.step (fun n => ?_) key)
        · simp only [impl_takeNumber.l0, h1, h8, h9, decide_true, if_true]
        · simp only [impl_takeNumber.j1, h1, h2, h3, h4, h5, h6, h9, h10, h11, if_true, wsucc (show k < 9223372036854775807 by omega)]
          rw [if_pos hbig]
      · refine Ev.step (f := fun n => impl_takeNumber.j1 n l p u k true) (fun n => ?_) (ev_now fun n => ?_)
        · simp only [impl_takeNumber.l0, h1, h8, h9, decide_true, if_true]
        · simp only [impl_takeNumber.j1, h1, h2, h3, h4, h5, h6, h9, h10, h11, if_true]
          rw [if_neg hbig]
          simp only [tkL]
          rw [if_neg hbig, Int.toNat_natCast, ← hv]
          clear h1 h2 h3 h4 h5 h6 hv hv1 hbig hb ih hce
          have q0 : ((k : Int) > 0) = (0 < k) := by simp
          have q5 : isWord (unzz v) = (¬ unzz v < -1099511627776 ∧ ¬ unzz v > 1099511627776) := by unfold isWord; apply propext; omega
          simp only [q5]
          have g1 : wrap64 ((v : Int) + 1) = ((v + 1 : Nat) : Int) := wsucc (by omega)
          have g2 : wrap64 (((p + k : Nat) : Int) + 1) = ((p + (k + 1) : Nat) : Int) := by rw [w64 (by omega) (by omega)]; omega
          by_cases hodd : v % 2 = 1
          · have g3 : wrap64 (Int.tdiv (wrap64 (-((v + 1 : Nat) : Int))) 2) = unzz v := by
              unfold unzz
              rw [if_pos hodd, w64 (x := -((v + 1 : Nat) : Int)) (by omega) (by omega), Int.neg_tdiv, Int.tdiv_eq_ediv_of_nonneg (by omega), w64 (by omega) (by omega)]
              omega
            have g4 : Int.tmod (v : Int) 2 = 1 := by rw [Int.tmod_eq_emod_of_nonneg (by omega)]; omega
            simp only [g1, g2, g3, g4, q0, if_true]
            clear q0 q5 g1 g2 g3 g4
            by_cases q1 : (c : Int) = 0 <;> by_cases q2 : 0 < k <;> by_cases q3 : unzz v < -1099511627776 <;> by_cases q4 : unzz v > 1099511627776 <;> simp only [q1, q2, q3, q4, if_true, if_false, and_true, and_false, false_and, true_and, not_true, not_false_iff, tkR]
          · have g3 : wrap64 (Int.tdiv (v : Int) 2) = unzz v := by
              unfold unzz
              rw [if_neg hodd, Int.tdiv_eq_ediv_of_nonneg (by omega), w64 (by omega) (by omega)]
              omega
            have g4 : ¬ Int.tmod (v : Int) 2 = 1 := by rw [Int.tmod_eq_emod_of_nonneg (by omega)]; omega
            simp only [g2, g3, g4, q0, if_false]
            clear q0 q5 g1 g2 g3 g4
            by_cases q1 : (c : Int) = 0 <;> by_cases q2 : 0 < k <;> by_cases q3 : unzz v < -1099511627776 <;> by_cases q4 : unzz v > 1099511627776 <;> simp only [q1, q2, q3, q4, if_true, if_false, and_true, and_false, false_and, true_and, not_true, not_false_iff, tkR]
    · rw [List.drop_eq_nil_of_le (by omega)]
      have h1 : ¬ wrap64 ((p : Int) + (k : Int)) < (l.length : Int) := by rw [w64 (by omega) (by omega)]; omega
      refine ⟨2, fun n hn' => ?_⟩
      obtain ⟨n, rfl⟩ : ∃ m, n = m + 2 := ⟨n - 2, by omega⟩
      simp only [impl_takeNumber.l0, impl_takeNumber.j1, h1, decide_false]
      rw [if_pos (by omega), if_neg (by decide)]
      rfl
/-- What is read at a place of a row of bytes. -/
def takeAt (l : List Int) (p : Nat) : Int × Int × Bool := tkR p (tkL 7 (l.drop p) 0 0)
theorem iTake_ev (l : List Int) (hn : l.length ≤ 140737488355328) (hb : isB l) (p : Nat) (hp : p ≤ 4611686018427387904) : Ev (fun n => impl_takeNumber.f n l (p : Int)) (takeAt l p) := by
  refine Ev.congr (fun n => ?_) (iTake_l l hn hb p hp 7 0 0 (by omega) (by omega))
  simp only [impl_takeNumber.f]
  rw [if_neg (by omega)]
  rfl

-- block iTakeN
theorem iTakeN_ev (l : List Int) (hn : l.length ≤ 140737488355328) (hb : isB l) (p : Nat) (hp : p ≤ 4611686018427387904) : Ev (fun n => impl_TakeNumber.f n l (p : Int)) (takeAt l p) := by
  refine Ev.congr (fun n => ?_) (iTake_ev l hn hb p hp)
  simp only [impl_TakeNumber.f]
  cases impl_takeNumber.f n l p <;> rfl

end Go.Proofs.Ytjgggiophbnghab.QFnNumbers

/- Lemmas on the printed functions of FnExactCheckSum: what each comes to. -/
import Derived.Test.YtoiidckbhpojmaaPFnExactCheckSumx
import Derived.Test.YtoiidckbhpojmaaMath
namespace Go.Proofs.Ytoiidckbhpojmaa.QFnExactCheckSum
open Go.RowKit Go.Proofs.Ytoiidckbhpojmaa.PFnExactCheckSum Go.Proofs.YtoiidckbhpojmaaW.PrintWords Go.Proofs.YtoiidckbhpojmaaW.PrintLast Go.Proofs.Ytoiidckbhpojmaa.Math
set_option linter.unusedVariables false
set_option linter.unusedSimpArgs false

-- block toByteS
theorem toByteS_l (l : List Int) (hn : l.length ≤ 140737488355328) : ∀ (d i : Nat), l.length - i = d → i ≤ l.length →
    Ev (fun k => laws_toByteS.l0 k l (l.take i ++ List.replicate (l.length - i) 0) (i : Int)) l := by
  intro d
  induction d with
  | zero =>
    intro i h hi
    refine ev_now fun k => ?_
    simp only [laws_toByteS.l0]
    rw [if_neg (by omega), fill_all l 0 i (by omega)]
  | succ d ih =>
    intro i h hi
    refine Ev.step (fun k => ?_) (ih (i + 1) (by omega) (by omega))
    simp only [laws_toByteS.l0]
    rw [if_pos (by omega), if_pos (by omega), if_pos (by simp; omega), wsucc (by omega), Int.toNat_natCast, set_fill l 0 _ i (by omega) (rd_eq (by omega))]
theorem toByteS_ev (l : List Int) (hn : l.length ≤ 140737488355328) : Ev (fun k => laws_toByteS.f k l) l := by
  refine Ev.congr (fun k => ?_) (toByteS_l l hn l.length 0 (by omega) (by omega))
  simp only [laws_toByteS.f]
  rw [if_pos (by omega), if_pos (by rw [Int.toNat_natCast]; omega), Int.toNat_natCast, fill_zero l 0]
  rfl

-- block eqByteS
theorem eqByteS_l (l : List Int) (hn : l.length ≤ 140737488355328) : ∀ (d i : Nat), l.length - i = d → i ≤ l.length → Ev (fun k => laws_eqByteS.l0 k l l (i : Int)) true := by
  intro d
  induction d with
  | zero =>
    intro i h hi
    refine ev_now fun k => ?_
    simp only [laws_eqByteS.l0]
    rw [if_neg (by omega)]
  | succ d ih =>
    intro i h hi
    refine Ev.step (fun k => ?_) (ih (i + 1) (by omega) (by omega))
    simp only [laws_eqByteS.l0]
    rw [if_pos (by omega), if_pos (by omega), if_pos (by omega), if_pos trivial, wsucc (by omega)]
theorem eqByteS_ev (l : List Int) (hn : l.length ≤ 140737488355328) : Ev (fun k => laws_eqByteS.f k l l) true := by
  refine Ev.congr (fun k => ?_) (eqByteS_l l hn l.length 0 (by omega) (by omega))
  simp only [laws_eqByteS.f]
  rw [if_pos trivial]
  rfl

-- block sCks
theorem sCks_l (l : List Int) (hn : l.length ≤ 140737488355328) (hb : isB l) : ∀ (d i : Nat) (x y : Int), l.length - i = d → 0 ≤ x → x ≤ 65520 → 0 ≤ y → y ≤ 65520 →
    Ev (fun k => spec_CheckSum.l0 k l x y (i : Int)) (cks (l.drop i) x y) := by
  intro d
  induction d with
  | zero =>
    intro i x y h h1 h2 h3 h4
    refine ev_now fun k => ?_
    simp only [spec_CheckSum.l0]
    rw [if_neg (by omega), List.drop_eq_nil_of_le (by omega), w64 (x := 65536 * y) (by omega) (by omega), w64 (by omega) (by omega), cks]
  | succ d ih =>
    intro i x y h h1 h2 h3 h4
    have hc := isB_at hb (show i < l.length by omega)
    rw [cks_at (by omega)]
    refine Ev.step (fun k => ?_) (ih (i + 1) _ _ (by omega) (by omega) (by omega) (by omega) (by omega))
    simp only [spec_CheckSum.l0]
    rw [if_pos (by omega), if_pos (by omega), rd_eq (by omega), w64 (x := l[i]) (by omega) (by omega), w64 (x := x + l[i]) (by omega) (by omega), Int.tmod_eq_emod_of_nonneg (a := x + l[i]) (by omega), w64 (x := y + _) (by omega) (by omega), Int.tmod_eq_emod_of_nonneg (by omega), wsucc (by omega)]
theorem sCks_ev (l : List Int) (hn : l.length ≤ 140737488355328) (hb : isB l) : Ev (fun k => spec_CheckSum.f k l) (cks l 1 0) := by
  refine Ev.congr (fun k => ?_) (sCks_l l hn hb l.length 0 1 0 (by omega) (by omega) (by omega) (by omega) (by omega))
  simp [spec_CheckSum.f]

-- block iCks
theorem iCks_l (l : List Int) (hn : l.length ≤ 140737488355328) (hb : isB l) : ∀ (d i : Nat) (x y : Int), l.length - i = d → 0 ≤ x → x ≤ 65520 → 0 ≤ y → y ≤ 65520 →
    Ev (fun k => impl_checkSum.l0 k x y l (l.length : Int) (i : Int)) (cks (l.drop i) x y) := by
  intro d
  induction d with
  | zero =>
    intro i x y h h1 h2 h3 h4
    refine ev_now fun k => ?_
    simp only [impl_checkSum.l0]
    rw [if_neg (by omega), List.drop_eq_nil_of_le (by omega), w64 (x := 65536 * y) (by omega) (by omega), w64 (by omega) (by omega), cks]
  | succ d ih =>
    intro i x y h h1 h2 h3 h4
    have hc := isB_at hb (show i < l.length by omega)
    rw [cks_at (by omega)]
    refine Ev.step (fun k => ?_) (ih (i + 1) _ _ (by omega) (by omega) (by omega) (by omega) (by omega))
    simp only [impl_checkSum.l0]
    rw [if_pos (by omega), if_pos (by omega), if_pos (by omega), rd_eq (by omega), w64 (x := l[i]) (by omega) (by omega), w64 (x := x + l[i]) (by omega) (by omega), Int.tmod_eq_emod_of_nonneg (a := x + l[i]) (by omega), w64 (x := y + _) (by omega) (by omega), Int.tmod_eq_emod_of_nonneg (by omega), wsucc (by omega)]
theorem iCks_ev (l : List Int) (hn : l.length ≤ 140737488355328) (hb : isB l) : Ev (fun k => impl_checkSum.f k l) (cks l 1 0) := by
  refine Ev.congr (fun k => ?_) (iCks_l l hn hb l.length 0 1 0 (by omega) (by omega) (by omega) (by omega) (by omega))
  simp [impl_checkSum.f]

-- block iCheckSum
theorem iCheckSum_ev (l : List Int) (hn : l.length ≤ 140737488355328) (hb : isB l) : Ev (fun k => impl_CheckSum.f k l) (cks l 1 0) := by
  refine Ev.congr (fun k => ?_) (iCks_ev l hn hb)
  simp [impl_CheckSum.f]

end Go.Proofs.Ytoiidckbhpojmaa.QFnExactCheckSum

/- Lemmas on the printed functions of FnExactFrameOk: what each comes to. -/
import Derived.Test.YtjgggiophbnghaaPFnExactFrameOkx
import Derived.Test.YtjgggiophbnghaaMath
namespace Go.Proofs.Ytjgggiophbnghaa.QFnExactFrameOk
open Go.RowKit Go.Proofs.Ytjgggiophbnghaa.PFnExactFrameOk Go.Proofs.YtjgggiophbnghaaW.PrintWords Go.Proofs.YtjgggiophbnghaaW.PrintLast Go.Proofs.Ytjgggiophbnghaa.Math
set_option linter.unusedVariables false
set_option linter.unusedSimpArgs false

-- block toByteS
theorem toByteS_l (l : List Int) (hn : l.length ≤ 140737488355328) : ∀ (d i : Nat), l.length - i = d → i ≤ l.length →
    Ev (fun k => laws_toByteS.l0 k l (l.take i ++ List.replicate (l.length - i) 0) (i : Int)) l := by
  intro d
  induction d with
  | zero =>
    intro i h hi
    refine ev_now fun k => ?_
    simp only [laws_toByteS.l0]
    rw [if_neg (by omega), fill_all l 0 i (by omega)]
  | succ d ih =>
    intro i h hi
    refine Ev.step (fun k => ?_) (ih (i + 1) (by omega) (by omega))
    simp only [laws_toByteS.l0]
    rw [if_pos (by omega), if_pos (by omega), if_pos (by simp; omega), wsucc (by omega), Int.toNat_natCast, set_fill l 0 _ i (by omega) (rd_eq (by omega))]
theorem toByteS_ev (l : List Int) (hn : l.length ≤ 140737488355328) : Ev (fun k => laws_toByteS.f k l) l := by
  refine Ev.congr (fun k => ?_) (toByteS_l l hn l.length 0 (by omega) (by omega))
  simp only [laws_toByteS.f]
  rw [if_pos (by omega), if_pos (by rw [Int.toNat_natCast]; omega), Int.toNat_natCast, fill_zero l 0]
  rfl

-- block eqByteS
theorem eqByteS_l (l : List Int) (hn : l.length ≤ 140737488355328) : ∀ (d i : Nat), l.length - i = d → i ≤ l.length → Ev (fun k => laws_eqByteS.l0 k l l (i : Int)) true := by
  intro d
  induction d with
  | zero =>
    intro i h hi
    refine ev_now fun k => ?_
    simp only [laws_eqByteS.l0]
    rw [if_neg (by omega)]
  | succ d ih =>
    intro i h hi
    refine Ev.step (fun k => ?_) (ih (i + 1) (by omega) (by omega))
    simp only [laws_eqByteS.l0]
    rw [if_pos (by omega), if_pos (by omega), if_pos (by omega), if_pos trivial, wsucc (by omega)]
theorem eqByteS_ev (l : List Int) (hn : l.length ≤ 140737488355328) : Ev (fun k => laws_eqByteS.f k l l) true := by
  refine Ev.congr (fun k => ?_) (eqByteS_l l hn l.length 0 (by omega) (by omega))
  simp only [laws_eqByteS.f]
  rw [if_pos trivial]
  rfl

-- block l01In
theorem in_eq (a b c : Int) : spec_l01In.f a b c = some (decide (b ≤ a ∧ a ≤ c)) := by
  simp only [spec_l01In.f, if_dec]

-- block szByteS
theorem szByteS_eq (l : List Int) (m : Int) (h0 : 0 ≤ m) (h1 : m ≤ 1048576) (hl : l.length ≤ maxLen) : laws_szByteS.f l m = some (if m < l.length then -1 else m - l.length) := by
  have hm : maxLen = 9223372036854775807 := rfl
  simp only [laws_szByteS.f]
  rw [w64 (by omega) (by omega)]
  by_cases h : m < l.length
  · rw [if_pos h, if_pos (by omega)]
  · rw [if_neg h, if_neg (by omega)]

-- block szFrame
theorem szFrame_eq (a b : Int) (l : List Int) (m : Int) (h0 : 0 ≤ m) (h1 : m ≤ 1048576) (hl : l.length ≤ maxLen) : laws_szFrame.f a b l m = some (if m < l.length then -1 else m - l.length) := by
  simp only [laws_szFrame.f, szByteS_eq l m h0 h1 hl, Option.bind_some]
  by_cases h : m < l.length
  · simp [h]
  · simp only [h, if_false]
    rw [if_neg (by omega)]

-- block toFrame
theorem toFrame_ev (a b : Int) (l : List Int) (hn : l.length ≤ 140737488355328) : Ev (fun k => laws_toFrame.f k a b l) (a, b, l) :=
  Ev.congr (fun k => rfl) (Ev.bind (toByteS_ev l hn) (f := fun _ t => some (a, b, t)) (Ev.now _))

-- block eqFrame
theorem eqFrame_ev (a b : Int) (l : List Int) (hn : l.length ≤ 140737488355328) : Ev (fun k => laws_eqFrame.f k a b l a b l) true := by
  obtain ⟨K, h⟩ := eqByteS_ev l hn
  exact ⟨K, fun k hk => by simp only [laws_eqFrame.f, h k hk, Option.bind_some, if_true]⟩

-- block frOk
def frOk (a b : Int) (l : List Int) : Prop := 0 ≤ a ∧ a ≤ 99 ∧ 0 ≤ b ∧ b ≤ 2147483647 ∧ l.length ≤ 5000
instance frOk_dec (a b : Int) (l : List Int) : Decidable (frOk a b l) := by unfold frOk; infer_instance

-- block sFrameOk
theorem sFrameOk (a b : Int) (l : List Int) : spec_FrameOk.f a b l = some (decide (frOk a b l)) := by
  simp only [spec_FrameOk.f, in_eq, Option.bind_some, decide_eq_true_eq, if_dec]
  exact congrArg some (decide_eq_decide.2 (by unfold frOk; omega))

-- block iFrame
theorem iFrame (a b : Int) (l : List Int) : impl_isFrame.f a b l = some (decide (frOk a b l)) := by
  simp only [impl_isFrame.f, if_dec]
  exact congrArg some (decide_eq_decide.2 (by unfold frOk; omega))

-- block iFrameOk
theorem iFrameOk (a b : Int) (l : List Int) : impl_FrameOk.f a b l = some (decide (frOk a b l)) := by
  simp only [impl_FrameOk.f, iFrame, Option.bind_some]

end Go.Proofs.Ytjgggiophbnghaa.QFnExactFrameOk

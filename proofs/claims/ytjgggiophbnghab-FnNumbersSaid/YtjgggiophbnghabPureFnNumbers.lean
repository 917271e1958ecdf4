/- The pure statement of FnNumbers, with no condition beyond the law's own. -/
import Derived.Test.YtjgggiophbnghabSz
import Derived.Test.YtjgggiophbnghabQFnNumbers
namespace Go.Proofs.Ytjgggiophbnghab.Pure
open Go.RowKit Go.Proofs.Ytjgggiophbnghab.QFnNumbers Go.Proofs.Ytjgggiophbnghab.PFnNumbers Go.Proofs.YtjgggiophbnghabW.PrintWords Go.Proofs.YtjgggiophbnghabW.PrintLast Go.Proofs.Ytjgggiophbnghab.Math
set_option linter.unusedVariables false
set_option linter.unusedSimpArgs false

theorem law_l (l : List Int) (hn : l.length ≤ 140737488355328) (x : Int) (hx : isWord x) (a b : Int) (ha : 0 ≤ a ∧ a ≤ 255) (hb : 0 ≤ b ∧ b ≤ 255) : ∀ (d i : Nat), (putOf x).length - i = d → i ≤ (putOf x).length →
    Ev (fun k => laws_FnNumbers.l0 k l x (putOf x) ([a, b] ++ (putOf x).take i) (i : Int)) true := by
  have hp : putOf x = put (zz x) := by unfold putOf; rw [if_pos hx]
  have hlen := putOf_len x
  have hpos := put_pos (zz x)
  have hB : isB (putOf x) := by rw [hp]; exact put_isB _
  intro d
  induction d with
  | zero =>
    intro i h hi
    obtain ⟨c, hc⟩ := lawsAt l 2
    have ht := tkL_put x hx [(c % 256)] (zz x) 7 0 0 (by simp) (by omega) (by rw [← hp]; omega)
    have hT : takeAt (([a, b] ++ (putOf x).take i) ++ [c % 256]) 2 = (x, ((2 + (putOf x).length : Nat) : Int), true) := by
      unfold takeAt
      rw [List.take_of_length_le (by omega), hp]
      simp only [List.cons_append, List.nil_append, List.drop_succ_cons, List.drop_zero]
      rw [ht]
      simp [tkR]
    obtain ⟨K, hK⟩ := iTakeN_ev (([a, b] ++ (putOf x).take i) ++ [c % 256]) (by simp; omega) (by
      refine isB_append (isB_append ?_ (isB_take hB _)) ?_
      · intro y hy; simp at hy; omega
      · intro y hy; simp at hy; omega) 2 (by omega)
    refine ⟨K + 1, fun k hk => ?_⟩
    obtain ⟨k, rfl⟩ : ∃ m, k = m + 1 := ⟨k - 1, by omega⟩
    have hK' : impl_TakeNumber.f k ([a, b] ++ List.take i (putOf x) ++ [c % 256]) 2 = some (takeAt ([a, b] ++ List.take i (putOf x) ++ [c % 256]) 2) := hK k (by omega)
    have hc : laws_at.f l 2 = some c := hc
    simp only [laws_FnNumbers.l0]
    rw [if_neg (by omega), hc, Option.bind_some, if_pos (by simp; omega), hK', hT]
    simp only [Option.bind_some, if_true]
    rw [if_pos (by rw [hp]; omega)]
    simp; omega
  | succ d ih =>
    intro i h hi
    refine Ev.step (fun k => ?_) (ih (i + 1) (by omega) (by omega))
    simp only [laws_FnNumbers.l0]
    rw [if_pos (by omega), if_pos (by omega), if_pos (by simp; omega), wsucc (by omega), rd_eq (by omega), List.append_assoc, List.take_append_getElem (by omega)]
theorem FnNumbers : laws_FnNumbers.Pure := by
  intro l hm hn hw
  by_cases hbig : (l.length : Int) > 1048576
  · refine ⟨0, ?_⟩
    simp only [laws_FnNumbers.f, laws_big.f, hbig, decide_true, Option.bind_some, if_true]
  · obtain ⟨x, hx⟩ := drawPutNumber l (by omega)
    by_cases hword : isWord x
    · have hlen := putOf_len x
      obtain ⟨a, ha⟩ := lawsAt l 0
      obtain ⟨b, hb⟩ := lawsAt l 1
      have hc := law_l l (by omega) x hword (a % 256) (b % 256) (by omega) (by omega) (putOf x).length 0 (by omega) (by omega)
      obtain ⟨n, h1, h2, h3, h4⟩ := evs4 hx (iPutN_ev x) (cpBytes_ev [a % 256, b % 256] (by simp)) hc
      refine ⟨n + 1, ?_⟩
      have ha : laws_at.f l 0 = some a := ha
      have hb : laws_at.f l 1 = some b := hb
      have h2' : impl_PutNumber.f n x = some (putOf x) := h2 0
      have h3' : laws_cpBytes.f n [a % 256, b % 256] = some [a % 256, b % 256] := h3 0
      have h4' : laws_FnNumbers.l0 n l x (putOf x) [a % 256, b % 256] 0 = some true := h4 0
      have e1 : ¬ x > 1099511627776 := by unfold isWord at hword; omega
      have e2 : ¬ x < -1099511627776 := by unfold isWord at hword; omega
      simp only [laws_FnNumbers.f, laws_big.f, hbig, h1, e1, e2, decide_false, Option.bind_some, if_false, Bool.false_eq_true]
      simp only [laws_FnNumbers.j0, h2', ha, hb, h3', Option.bind_some, if_false, Bool.false_eq_true]
      exact h4'
    · obtain ⟨n, h1⟩ := evs1 hx
      refine ⟨n + 1, ?_⟩
      simp only [laws_FnNumbers.f, laws_big.f, hbig, h1, decide_false, Option.bind_some, if_false, Bool.false_eq_true]
      unfold isWord at hword
      split
      · rfl
      · rename_i e
        have e2 : x < -1099511627776 := by omega
        simp only [e2, decide_true, laws_FnNumbers.j0, if_true]

end Go.Proofs.Ytjgggiophbnghab.Pure

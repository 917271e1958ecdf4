/- Lemmas on the printed functions of FnExactLineOk: what each comes to. -/
import Derived.Test.YtjgggiophbnghabPFnExactLineOkx
import Derived.Test.YtjgggiophbnghabMath
namespace Go.Proofs.Ytjgggiophbnghab.QFnExactLineOk
open Go.RowKit Go.Proofs.Ytjgggiophbnghab.PFnExactLineOk Go.Proofs.YtjgggiophbnghabW.PrintWords Go.Proofs.YtjgggiophbnghabW.PrintLast Go.Proofs.Ytjgggiophbnghab.Math
set_option linter.unusedVariables false
set_option linter.unusedSimpArgs false

-- block l01In
theorem in_eq (a b c : Int) : spec_l01In.f a b c = some (decide (b ≤ a ∧ a ≤ c)) := by
  simp only [spec_l01In.f, if_dec]

-- block toTicket_c
def toTicket_c (x : S104) : S75 := ⟨x.f0, x.f1⟩
theorem rdTicketL {xs : List S104} {i : Nat} (h : i < xs.length) : rd_T104 xs (i : Int) = xs[i] := by
  simp [rd_T104, List.getD_eq_getElem?_getD, List.getElem?_eq_getElem h]

-- block toTicketS
theorem toTicketS_l (l : List S104) (hn : l.length ≤ 1048576) : ∀ (d i : Nat), l.length - i = d → i ≤ l.length →
    Ev (fun k => laws_toTicketS.l0 k l ((l.map toTicket_c).take i ++ List.replicate ((l.map toTicket_c).length - i) z75) (i : Int)) (l.map toTicket_c) := by
  intro d
  induction d with
  | zero =>
    intro i h hi
    refine ev_now fun k => ?_
    simp only [laws_toTicketS.l0]
    rw [if_neg (by omega), fill_all (l.map toTicket_c) z75 i (by simp; omega)]
  | succ d ih =>
    intro i h hi
    refine Ev.step (fun k => ?_) (ih (i + 1) (by omega) (by omega))
    simp only [laws_toTicketS.l0, laws_toTicket.f, Option.bind_some]
    rw [if_pos (by omega), if_pos (by omega), if_pos (by simp; omega), wsucc (by omega), Int.toNat_natCast, rdTicketL (by omega), set_fill (l.map toTicket_c) z75 _ i (by simp; omega) (by simp [toTicket_c])]
theorem toTicketS_ev (l : List S104) (hn : l.length ≤ 1048576) : Ev (fun k => laws_toTicketS.f k l) (l.map toTicket_c) := by
  refine Ev.congr (fun k => ?_) (toTicketS_l l hn l.length 0 (by omega) (by omega))
  simp only [laws_toTicketS.f]
  rw [if_pos (by omega), if_pos (by rw [Int.toNat_natCast]; omega), Int.toNat_natCast, show l.length = (l.map toTicket_c).length by simp, fill_zero (l.map toTicket_c) z75]
  all_goals rfl

-- block eqTicketS
theorem eqTicketS_l (l : List S75) (hn : l.length ≤ 1048576) : ∀ (d i : Nat), l.length - i = d → i ≤ l.length → Ev (fun k => laws_eqTicketS.l0 k l l (i : Int)) true := by
  intro d
  induction d with
  | zero =>
    intro i h hi
    refine ev_now fun k => ?_
    simp only [laws_eqTicketS.l0]
    rw [if_neg (by omega)]
  | succ d ih =>
    intro i h hi
    refine Ev.step (fun k => ?_) (ih (i + 1) (by omega) (by omega))
    simp only [laws_eqTicketS.l0, laws_eqTicket.f, if_true, Option.bind_some]
    rw [if_pos (by omega), if_pos (by omega), if_pos (by omega), wsucc (by omega)]
theorem eqTicketS_ev (l : List S75) (hn : l.length ≤ 1048576) : Ev (fun k => laws_eqTicketS.f k l l) true := by
  refine Ev.congr (fun k => ?_) (eqTicketS_l l hn l.length 0 (by omega) (by omega))
  simp only [laws_eqTicketS.f]
  rw [if_pos trivial]
  all_goals rfl

-- block szTicketS
theorem szTicketS_eq (l : List S104) (m : Int) (h0 : 0 ≤ m) (h1 : m ≤ 1048576) (hl : l.length ≤ maxLen) : laws_szTicketS.f l m = some (if m < l.length then -1 else m - l.length) := by
  have hm : maxLen = 9223372036854775807 := rfl
  simp only [laws_szTicketS.f]
  rw [w64 (by omega) (by omega)]
  by_cases h : m < l.length
  · rw [if_pos h, if_pos (by omega)]
  · rw [if_neg h, if_neg (by omega)]

-- block tickOk
/-- A ticket is valid, and comes behind the one ahead of it. -/
def tickB (x : S75) : Bool := decide (1 ≤ x.f0 ∧ x.f0 ≤ 1000000000 ∧ 1 ≤ x.f1 ∧ x.f1 ≤ 200000)
def tickQ (l : List S75) (i : Nat) : Bool := tickB (rd_T75 l i) && (decide (i = 0) || decide ((rd_T75 l ((i - 1 : Nat) : Int)).f0 < (rd_T75 l i).f0))

-- block sTicket
theorem sTicket (x : S75) : spec_l13Ticket.f x.f0 x.f1 = some (tickB x) := by
  simp only [spec_l13Ticket.f, in_eq, Option.bind_some, decide_eq_true_eq, if_dec, tickB]
  exact congrArg some (decide_eq_decide.2 (by omega))

-- block iTicket
theorem iTicket (x : S75) : impl_isTicket.f x.f0 x.f1 = some (tickB x) := by
  simp only [impl_isTicket.f, if_dec, tickB]
  all_goals exact congrArg some (decide_eq_decide.2 (by omega))

-- block sLine
theorem sLine_l (l : List S75) (hn : l.length ≤ 1048576) : ∀ (d i : Nat), l.length - i = d → i ≤ l.length → Ev (fun k => spec_LineOk.l0 k (i : Int) l) (allF d i (tickQ l)) := by
  intro d
  induction d with
  | zero =>
    intro i h hi
    refine ev_now fun k => ?_
    simp only [spec_LineOk.l0]
    rw [if_neg (by omega)]; rfl
  | succ d ih =>
    intro i h hi
    rw [allF]
    have hw : (0 : Nat) < i → wrap64 ((i : Int) - 1) = ((i - 1 : Nat) : Int) := fun h0 => by rw [w64 (by omega) (by omega)]; omega
    by_cases hq : tickQ l i = true
    · rw [hq, Bool.true_and]
      refine Ev.step (fun k => ?_) (ih (i + 1) (by omega) (by omega))
      simp only [tickQ, Bool.and_eq_true, Bool.or_eq_true, decide_eq_true_eq] at hq
      simp only [spec_LineOk.l0, sTicket, Option.bind_some, hq.1, if_true]
      rw [if_pos (by omega), if_pos (by omega), wsucc (by omega)]
      by_cases h0 : i = 0
      · rw [if_neg (by omega)]
      · have := hq.2.resolve_left h0
        rw [if_pos (by omega), hw (by omega), if_pos (by omega), if_pos (by omega), if_neg (by omega)]
    · rw [Bool.eq_false_iff.2 hq, Bool.false_and]
      refine ev_now fun k => ?_
      simp only [spec_LineOk.l0, sTicket, Option.bind_some]
      rw [if_pos (by omega), if_pos (by omega)]
      by_cases ht : tickB (rd_T75 l i) = true
      · rw [if_pos ht]
        simp only [tickQ, Bool.and_eq_true, Bool.or_eq_true, decide_eq_true_eq, ht, true_and, not_or] at hq
        rw [if_pos (by omega), hw (by omega), if_pos (by omega), if_pos (by omega), if_pos (by omega)]
      · rw [if_neg ht]
def lineB (l : List S75) : Bool := decide (l.length ≤ 40) && allF l.length 0 (tickQ l)
theorem sLine_ev (l : List S75) (hn : l.length ≤ 1048576) : Ev (fun k => spec_LineOk.f k l) (lineB l) := by
  unfold lineB
  by_cases h : l.length ≤ 40
  · rw [decide_eq_true h, Bool.true_and]
    refine Ev.congr (fun k => ?_) (sLine_l l hn l.length 0 (by omega) (by omega))
    simp only [spec_LineOk.f]
    rw [if_neg (by omega)]; rfl
  · rw [decide_eq_false h, Bool.false_and]
    refine ev_some fun k => ?_
    simp only [spec_LineOk.f]
    rw [if_pos (by omega)]

-- block iLine
theorem iLine_l (l : List S75) (hn : l.length ≤ 1048576) : ∀ (d i : Nat), l.length - i = d → i ≤ l.length → Ev (fun k => impl_isLine.l0 k l (l.length : Int) (i : Int) l) (decide (l.length ≤ 40) && allF d i (tickQ l)) := by
  intro d
  induction d with
  | zero =>
    intro i h hi
    refine ev_now fun k => ?_
    simp only [impl_isLine.l0]
    rw [if_neg (by omega), allF, Bool.and_true]
    exact congrArg some (decide_eq_decide.2 (by omega))
  | succ d ih =>
    intro i h hi
    rw [allF]
    have hw : (0 : Nat) < i → wrap64 ((i : Int) - 1) = ((i - 1 : Nat) : Int) := fun h0 => by rw [w64 (by omega) (by omega)]; omega
    by_cases hq : tickQ l i = true
    · rw [hq, Bool.true_and]
      refine Ev.step (fun k => ?_) (ih (i + 1) (by omega) (by omega))
      simp only [tickQ, Bool.and_eq_true, Bool.or_eq_true, decide_eq_true_eq] at hq
      simp only [impl_isLine.l0, iTicket, Option.bind_some, hq.1, if_true]
      rw [if_pos (by omega), if_pos (by omega), if_pos (by omega), wsucc (by omega)]
      by_cases h0 : i = 0
      · rw [if_neg (by omega)]
      · have := hq.2.resolve_left h0
        rw [if_pos (by omega), hw (by omega), if_pos (by omega), if_pos (by omega), if_neg (by omega)]
    · rw [Bool.eq_false_iff.2 hq, Bool.false_and, Bool.and_false]
      refine ev_now fun k => ?_
      simp only [impl_isLine.l0, iTicket, Option.bind_some]
      rw [if_pos (by omega), if_pos (by omega), if_pos (by omega)]
      by_cases ht : tickB (rd_T75 l i) = true
      · rw [if_pos ht]
        simp only [tickQ, Bool.and_eq_true, Bool.or_eq_true, decide_eq_true_eq, ht, true_and, not_or] at hq
        rw [if_pos (by omega), hw (by omega), if_pos (by omega), if_pos (by omega), if_pos (by omega)]
      · rw [if_neg ht]
theorem iLine_ev (l : List S75) (hn : l.length ≤ 1048576) : Ev (fun k => impl_isLine.f k l) (lineB l) := by
  refine Ev.congr (fun k => ?_) (iLine_l l hn l.length 0 (by omega) (by omega))
  simp [impl_isLine.f]

end Go.Proofs.Ytjgggiophbnghab.QFnExactLineOk

/- Lemmas on the printed functions of FnLineOrder: what each comes to. -/
import Derived.Test.YtbojabmpcfclhaaZFLOx8
import Derived.Test.YtbojabmpcfclhaaZFLOV
namespace Go.Proofs.Ytbojabmpcfclhaa.QFnLineOrder
open Go.RowKit Go.Proofs.Ytbojabmpcfclhaa.PFnLineOrder Go.Proofs.YtbojabmpcfclhaaW.PrintWords Go.Proofs.YtbojabmpcfclhaaW.PrintLast Go.Proofs.Ytbojabmpcfclhaa.Math
set_option linter.unusedVariables false
set_option linter.unusedSimpArgs false

-- block rdTicket
theorem rdTicket {xs : List S65} {i : Nat} (h : i < xs.length) : rd_T65 xs (i : Int) = xs[i] := by
  simp [rd_T65, List.getD_eq_getElem?_getD, List.getElem?_eq_getElem h]

-- block tickOk
/-- A ticket is valid, and comes behind the one ahead of it. -/
def tickB (x : S65) : Bool := decide (1 ≤ x.f0 ∧ x.f0 ≤ 1000000000 ∧ 1 ≤ x.f1 ∧ x.f1 ≤ 200000)
def tickQ (l : List S65) (i : Nat) : Bool := tickB (rd_T65 l i) && (decide (i = 0) || decide ((rd_T65 l ((i - 1 : Nat) : Int)).f0 < (rd_T65 l i).f0))
def lineB (l : List S65) : Bool := decide (l.length ≤ 40) && allF l.length 0 (tickQ l)

-- block iTicket
theorem iTicket (x : S65) : impl_isTicket.f x.f0 x.f1 = some (tickB x) := by
  simp only [impl_isTicket.f, if_dec, tickB]
  all_goals exact congrArg some (decide_eq_decide.2 (by omega))

-- block iLine
theorem iLine_l (l : List S65) (hn : l.length ≤ 1048576) : ∀ (d i : Nat), l.length - i = d → i ≤ l.length → Ev (fun k => impl_isLine.l0 k l (l.length : Int) (i : Int) l) (decide (l.length ≤ 40) && allF d i (tickQ l)) := by
  intro d
  induction d with
  | zero =>
    intro i h hi
    refine ev_now fun k => ?_
    simp only [impl_isLine.l0]
    rw [if_neg (by omega), allF, Bool.and_true]
    exact congrArg some (decide_eq_decide.2 (by omega))
  | succ d ih =>
    intro i h hi
    rw [allF]
    have hw : (0 : Nat) < i → wrap64 ((i : Int) - 1) = ((i - 1 : Nat) : Int) := fun h0 => by rw [w64 (by omega) (by omega)]; omega
    by_cases hq : tickQ l i = true
    · rw [hq, Bool.true_and]
      refine Ev.step (fun k => ?_) (ih (i + 1) (by omega) (by omega))
      simp only [tickQ, Bool.and_eq_true, Bool.or_eq_true, decide_eq_true_eq] at hq
      simp only [impl_isLine.l0, iTicket, Option.bind_some, hq.1, if_true]
      rw [if_pos (by omega), if_pos (by omega), if_pos (by omega), wsucc (by omega)]
      by_cases h0 : i = 0
      · rw [if_neg (by omega)]
      · have := hq.2.resolve_left h0
        rw [if_pos (by omega), hw (by omega), if_pos (by omega), if_pos (by omega), if_neg (by omega)]
    · rw [Bool.eq_false_iff.2 hq, Bool.false_and, Bool.and_false]
      refine ev_now fun k => ?_
      simp only [impl_isLine.l0, iTicket, Option.bind_some]
      rw [if_pos (by omega), if_pos (by omega), if_pos (by omega)]
      by_cases ht : tickB (rd_T65 l i) = true
      · rw [if_pos ht]
        simp only [tickQ, Bool.and_eq_true, Bool.or_eq_true, decide_eq_true_eq, ht, true_and, not_or] at hq
        rw [if_pos (by omega), hw (by omega), if_pos (by omega), if_pos (by omega), if_pos (by omega)]
      · rw [if_neg ht]
theorem iLine_ev (l : List S65) (hn : l.length ≤ 1048576) : Ev (fun k => impl_isLine.f k l) (lineB l) := by
  refine Ev.congr (fun k => ?_) (iLine_l l hn l.length 0 (by omega) (by omega))
  simp [impl_isLine.f]

-- block lawsAt
theorem lawsAtB (l : List Int) (hb : isB l) (hn : l.length ≤ 1048576) (n : Nat) (h : n ≤ 1000) : ∃ v, laws_at.f l (n : Int) = some v ∧ 0 ≤ v ∧ v ≤ 255 := by
  simp only [laws_at.f]
  by_cases hl : (n : Int) < (l.length : Int)
  · have hc := isB_at hb (show n < l.length by omega)
    rw [if_pos hl, if_pos (by omega), rd_eq (by omega), w64 (by omega) (by omega)]
    exact ⟨_, rfl, hc⟩
  · rw [if_neg hl, w64 (x := (n : Int) * 13) (by omega) (by omega), w64 (x := (l.length : Int) * 5) (by omega) (by omega), w64 (by omega) (by omega), Int.tmod_eq_emod_of_nonneg (by omega)]
    exact ⟨_, rfl, by omega, by omega⟩
theorem lawsAt (l : List Int) (n : Nat) : ∃ v, laws_at.f l (n : Int) = some v := by
  simp only [laws_at.f]
  split
  · rw [if_pos (by omega)]; exact ⟨_, rfl⟩
  · exact ⟨_, rfl⟩

-- block lineLI
/-- A valid line. -/
def LI (l : List S65) : Prop := l.length ≤ 40 ∧ (∀ x ∈ l, tickB x = true) ∧ l.Pairwise (fun a b => a.f0 < b.f0)
theorem lineB_iff (l : List S65) : lineB l = true ↔ LI l := by
  unfold lineB LI
  simp only [Bool.and_eq_true, decide_eq_true_eq, allF_iff, Nat.zero_le, true_implies, Nat.zero_add]
  refine and_congr_right fun hl => ?_
  constructor
  · intro h
    have hq : ∀ j (hj : j < l.length), tickB l[j] = true ∧ (j = 0 ∨ ∃ h0 : j - 1 < l.length, (l[j - 1]'h0).f0 < l[j].f0) := by
      intro j hj
      have := h j hj
      simp only [tickQ, Bool.and_eq_true, Bool.or_eq_true, decide_eq_true_eq, rdTicket hj, rdTicket (show j - 1 < l.length by omega)] at this
      exact ⟨this.1, this.2.imp_right fun h => ⟨by omega, h⟩⟩
    refine ⟨fun x hx => ?_, ?_⟩
    · obtain ⟨j, hj, rfl⟩ := List.getElem_of_mem hx
      exact (hq j hj).1
    · rw [List.pairwise_iff_getElem]
      intro i j hi hj hij
      induction j with
      | zero => omega
      | succ j ih =>
        obtain ⟨h0, h1⟩ := (hq (j + 1) hj).2.resolve_left (by omega)
        simp only [Nat.add_sub_cancel] at h1
        by_cases he : i = j
        · subst he; exact h1
        · exact Int.lt_trans (ih (by omega) (by omega)) h1
  · rintro ⟨h1, h2⟩ j hj
    rw [List.pairwise_iff_getElem] at h2
    simp only [tickQ, Bool.and_eq_true, Bool.or_eq_true, decide_eq_true_eq, rdTicket hj, rdTicket (show j - 1 < l.length by omega)]
    refine ⟨h1 _ (List.getElem_mem hj), ?_⟩
    by_cases h0 : j = 0
    · exact .inl h0
    · exact .inr (h2 (j - 1) j (by omega) hj (by omega))
theorem LI_sub {l l' : List S65} (h : LI l) (hs : l'.Sublist l) : LI l' := ⟨Nat.le_trans hs.length_le h.1, fun x hx => h.2.1 x (hs.subset hx), h.2.2.sublist hs⟩
theorem LI_snoc {l : List S65} (h : LI l) (x : S65) (hx : 1 ≤ x.f1 ∧ x.f1 ≤ 200000) (hid : x.f0 ≤ 1000000000) (h0 : 0 ≤ x.f0) : LI (l ++ [x]) ↔ (x.f0 > 0 ∧ l.length < 40 ∧ ∀ y ∈ l, y.f0 < x.f0) := by
  unfold LI
  rw [List.pairwise_append]
  simp only [List.length_append, List.length_singleton, List.mem_append, List.mem_singleton, List.pairwise_singleton, true_and]
  constructor
  · rintro ⟨h1, h2, h3, h4⟩
    have := h2 x (.inr rfl)
    simp only [tickB, decide_eq_true_eq] at this
    exact ⟨by omega, by omega, fun y hy => h4 y hy x rfl⟩
  · rintro ⟨h1, h2, h3⟩
    refine ⟨by omega, ?_, h.2.2, fun y hy z hz => hz ▸ h3 y hy⟩
    rintro y (hy | rfl)
    · exact h.2.1 y hy
    · simp only [tickB, decide_eq_true_eq]; omega
theorem LI_line {l : List S65} (h : LI l) : lineB l = true := (lineB_iff l).2 h

-- block lineOps
theorem copyLine_eq (l : List S65) (h : l.length ≤ 1048576) : impl_copyLine.f l = some l := by
  simp only [impl_copyLine.f, Option.bind_some, List.length_nil, Nat.zero_add, List.nil_append]
  rw [if_pos (by omega)]
theorem Push_ev (l : List S65) (h : LI l) (id c : Int) : Ev (fun k => impl_Push.f k l id c) (if lineB (l ++ [⟨id, c⟩]) = true then (l ++ [⟨id, c⟩], true) else (l, false)) := by
  have hl := h.1
  simp only [impl_Push.f, impl_push.f]
  refine Ev.bind (iLine_ev l (by omega)) ?_
  simp only [LI_line h, if_true, copyLine_eq l (by omega), Option.bind_some, if_pos (show l.length < 8796093022208 by omega)]
  have h2 := iLine_ev (l ++ [⟨id, c⟩]) (by simp <;> omega)
  by_cases hq : lineB (l ++ [⟨id, c⟩]) = true
  · rw [if_pos hq]
    rw [hq] at h2
    refine Ev.bind (a := (l ++ [⟨id, c⟩], true)) (Ev.bind h2 ?_) (Ev.now _)
    exact Ev.now _
  · rw [if_neg hq]
    rw [Bool.not_eq_true] at hq
    rw [hq] at h2
    refine Ev.bind (a := (l, false)) (Ev.bind h2 ?_) (Ev.now _)
    exact Ev.now _
theorem placeOf_l (l : List S65) (hl : l.length ≤ 40) (m : Nat) (hm : m < l.length) (hne : ∀ j (hj : j < m), (l[j]'(by omega)).f0 ≠ l[m].f0) : ∀ (d i : Nat), m - i = d → i ≤ m → Ev (fun k => impl_placeOf.l0 k l l[m].f0 (i : Int)) (m : Int) := by
  intro d
  induction d with
  | zero =>
    intro i h hi
    obtain rfl : i = m := by omega
    refine ev_now fun k => ?_
    simp only [impl_placeOf.l0]
    rw [if_pos (by omega), rdTicket hm, if_pos rfl]
  | succ d ih =>
    intro i h hi
    refine Ev.step (fun k => ?_) (ih (i + 1) (by omega) (by omega))
    simp only [impl_placeOf.l0]
    rw [if_pos (by omega), rdTicket (by omega), if_neg (hne i (by omega)), wsucc (by omega)]
theorem placeOf_ev (l : List S65) (h : LI l) (m : Nat) (hm : m < l.length) : Ev (fun k => impl_placeOf.f k l l[m].f0) (m : Int) := by
  have hp := List.pairwise_iff_getElem.1 h.2.2
  exact Ev.congr (fun k => rfl) (placeOf_l l h.1 m hm (fun j hj => by have := hp j m (by omega) hm hj; omega) m 0 (by omega) (by omega))
theorem PlaceOf_ev (l : List S65) (h : LI l) (m : Nat) (hm : m < l.length) : Ev (fun k => impl_PlaceOf.f k l l[m].f0) (m : Int) := by
  simp only [impl_PlaceOf.f]
  refine Ev.bind (iLine_ev l (by have := h.1; omega)) ?_
  simp only [LI_line h, if_true]
  exact Ev.bind (placeOf_ev l h m hm) (Ev.now _)
theorem Cancel_ev (l : List S65) (h : LI l) (m : Nat) (hm : m < l.length) : Ev (fun k => impl_Cancel.f k l l[m].f0) (l.take m ++ l.drop (m + 1), l[m].f0, l[m].f1, true) := by
  have hl := h.1
  simp only [impl_Cancel.f]
  refine Ev.bind (placeOf_ev l h m hm) (Ev.bind (iLine_ev l (by omega)) ?_)
  simp only [LI_line h, if_true]
  refine ev_now fun k => ?_
  simp only [impl_Cancel.j0, impl_withoutTicket.f]
  rw [if_neg (by simp <;> omega), if_pos (by omega), if_pos (by omega), if_pos (by omega)]
  simp only [Option.bind_some, Int.toNat_natCast, rdTicket hm]
  rw [if_pos (by omega), if_pos (by omega)]
theorem Pop_nil : Ev (fun k => impl_Pop.f k ([] : List S65)) (([] : List S65), 0, 0, false) := by
  simp only [impl_Pop.f]
  refine Ev.bind (iLine_ev [] (by simp)) ?_
  simp only [LI_line (show LI [] from ⟨by simp, by simp, List.Pairwise.nil⟩), if_true]
  refine ev_now fun k => ?_
  simp only [impl_Pop.j0, copyLine_eq [] (by simp), List.length_nil]
  rw [if_pos (by simp)]
  rfl
theorem Pop_cons (x : S65) (l : List S65) (h : LI (x :: l)) : Ev (fun k => impl_Pop.f k (x :: l)) (l, x.f0, x.f1, true) := by
  have hl := h.1
  rw [List.length_cons] at hl
  simp only [impl_Pop.f]
  refine Ev.bind (iLine_ev _ (by simp <;> omega)) ?_
  simp only [LI_line h, if_true]
  refine ev_now fun k => ?_
  simp only [impl_Pop.j0, List.drop_succ_cons, List.drop_zero, copyLine_eq l (by omega), Option.bind_some]
  rw [if_neg (by simp <;> omega), if_pos (by simp <;> omega), if_pos (by simp <;> omega), show (0 : Int) = ((0 : Nat) : Int) from rfl, rdTicket (by simp)]
  rfl

end Go.Proofs.Ytbojabmpcfclhaa.QFnLineOrder

/- The pure statement of FnLineOrder, with no condition beyond the law's own. -/
import Derived.Test.YtbojabmpcfclhaaZFLOx7
import Derived.Test.YtbojabmpcfclhaaZFLOx9
namespace Go.Proofs.Ytbojabmpcfclhaa.Pure
open Go.RowKit Go.Proofs.Ytbojabmpcfclhaa.QFnLineOrder Go.Proofs.Ytbojabmpcfclhaa.PFnLineOrder Go.Proofs.YtbojabmpcfclhaaW.PrintWords Go.Proofs.YtbojabmpcfclhaaW.PrintLast Go.Proofs.Ytbojabmpcfclhaa.Math
set_option linter.unusedVariables false
set_option linter.unusedSimpArgs false

theorem lo_w1 (i : Nat) (h : i ≤ 1000) : wrap64 ((i : Int) + 1) = ((i + 1 : Nat) : Int) := wsucc (by omega)
theorem lo_c (c : Int) (h0 : 0 ≤ c) (h1 : c ≤ 255) : wrap64 (1 + c) = 1 + c := w64 (by omega) (by omega)
theorem lo_wl (n : Nat) (h0 : 0 < n) (h1 : n ≤ 40) : wrap64 ((n : Int) - 1) = ((n - 1 : Nat) : Int) := w64n (by omega) (by omega)
theorem lo_id (id a : Int) (h0 : 0 ≤ id) (h1 : id ≤ 1000) (ha : 0 ≤ a) : ∃ nid : Int, Aside0 (wrap64 (id + Int.tmod a 3) = nid) ∧ id ≤ nid ∧ nid ≤ id + 2 := by
  have h2 : Int.tmod a 3 = a % 3 := Int.tmod_eq_emod_of_nonneg ha
  have h3 : wrap64 (id + Int.tmod a 3) = id + Int.tmod a 3 := w64 (by omega) (by omega)
  exact ⟨_, ⟨rfl⟩, by rw [h3, h2]; omega, by rw [h3, h2]; omega⟩
theorem lo_w2 (i : Nat) (h : i ≤ 1000) : wrap64 ((i : Int) + 2) = ((i + 2 : Nat) : Int) := w64n (by omega) (by omega)
theorem lo_l2 (l : List S65) (h : LI l) : ∀ (d i : Nat), l.length - i = d → i ≤ l.length → Ev (fun k => laws_FnLineOrder.l2 k (l.map (·.f0)) (i : Int) (l.drop i)) true := by
  have hl := h.1
  intro d
  induction d with
  | zero =>
    intro i hd hi
    obtain rfl : i = l.length := by omega
    rw [List.drop_length]
    refine Ev.step (f := fun k => (impl_Pop.f k ([] : List S65)).bind fun bt218 => some (!bt218.2.2.2)) (fun k => ?_) (Ev.bind Pop_nil (Ev.now _))
    simp only [laws_FnLineOrder.l2]
    rw [if_neg (by simp)]
  | succ d ih =>
    intro i hd hi
    have hi2 : i < l.length := by omega
    have hp := Pop_cons l[i] (l.drop (i + 1)) (by rw [← List.drop_eq_getElem_cons hi2]; exact LI_sub h (List.drop_sublist _ _))
    rw [← List.drop_eq_getElem_cons hi2] at hp
    refine Ev.step (fun k => ?_) (Ev.bind hp (f := fun k bt209 => (if bt209.2.2.2 = true then (if 0 ≤ (i : Int) then (if bt209.2.1 = (rd (l.map (·.f0)) (i : Int)) then (laws_FnLineOrder.l2 k (l.map (·.f0)) (wrap64 ((i : Int) + 1)) bt209.1) else (some false)) else (none)) else (some false))) ?_)
    · simp only [laws_FnLineOrder.l2]
      rw [if_pos (by simp <;> omega)]
    · have hr : rd (l.map (·.f0)) (i : Int) = l[i].f0 := by rw [rd_eq (by simp <;> omega)]; simp
      simp only [if_true, hr, wsucc (show i < 9223372036854775807 by omega)]
      refine Ev.congr (fun k => ?_) (ih (i + 1) (by omega) (by omega))
      rw [if_pos (by omega)]
/-- What is said of the rounds behind the i-th. -/
def loH (code : List Int) (i : Nat) : Prop := ∀ (l : List S65) (id : Int), LI l → (∀ x ∈ l, x.f0 ≤ id) → 0 ≤ id → id ≤ 3 * (i : Int) → Ev (fun k => laws_FnLineOrder.l0 k code (l.map (·.f0)) id (i : Int) l) true
theorem lo_l1 (code : List Int) (i : Nat) (hi : i ≤ 1000) (hI : loH code (i + 1)) (w : List Int) (hw : w.length ≤ 40) (m : Nat) (hm : m < w.length) (cut : List S65) (h : LI cut) (id : Int) (hid : ∀ x ∈ cut, x.f0 ≤ id) (h0 : 0 ≤ id) (h3 : id ≤ 3 * (i : Int) + 3) (hc : cut.map (·.f0) = w.take m ++ w.drop (m + 1)) :
    ∀ (d p : Nat) (out : List Int), w.length - p = d → p ≤ w.length → out.length ≤ p → out ++ (if p ≤ m then (w.drop p).take (m - p) ++ w.drop (m + 1) else w.drop p) = cut.map (·.f0) → Ev (fun k => laws_FnLineOrder.l1 k code w id (i : Int) (m : Int) out (p : Int) cut) true := by
  intro d
  induction d with
  | zero =>
    intro p out hd hp ho he
    obtain rfl : p = w.length := by omega
    rw [if_neg (by omega), List.drop_length, List.append_nil] at he
    refine Ev.step (fun k => ?_) (hI cut id h hid h0 (by omega))
    simp only [laws_FnLineOrder.l1]
    rw [if_neg (by omega), wsucc (by omega), he]
  | succ d ih =>
    intro p out hd hp ho he
    by_cases hpm : p = m
    · subst hpm
      refine Ev.step (fun k => ?_) (ih (p + 1) out (by omega) (by omega) (by omega) ?_)
      · simp only [laws_FnLineOrder.l1]
        rw [if_pos (by omega), if_pos trivial, wsucc (by omega)]
      · rw [if_pos (Nat.le_refl _), Nat.sub_self, List.take_zero, List.nil_append] at he
        rw [if_neg (by omega)]
        exact he
    · refine Ev.step (fun k => ?_) (ih (p + 1) (out ++ [rd w (p : Int)]) (by omega) (by omega) (by simp <;> omega) ?_)
      · simp only [laws_FnLineOrder.l1]
        rw [if_pos (by omega), if_neg (by omega), if_pos (by omega), if_pos (by omega), wsucc (by omega)]
      · rw [rd_eq (by omega), ← he, List.append_assoc]
        congr 1
        by_cases hlt : p < m
        · rw [if_pos (by omega), if_pos (by omega), List.drop_eq_getElem_cons (show p < w.length by omega), show m - p = m - (p + 1) + 1 by omega, List.take_succ_cons]
          rfl
        · rw [if_neg (by omega), if_neg (by omega), List.drop_eq_getElem_cons (show p < w.length by omega)]
          rfl
theorem lo_j3 (code : List Int) (hb : isB code) (hn : code.length ≤ 1048576) (i : Nat) (hi : i ≤ 100) (hI : loH code (i + 1)) (l : List S65) (h : LI l) (id : Int) (hid : ∀ x ∈ l, x.f0 ≤ id) (h0 : 0 ≤ id) (h3 : id ≤ 3 * (i : Int) + 3) (b : Bool) (hbl : b = true → 0 < l.length) :
    Ev (fun k => laws_FnLineOrder.j3 k code (l.map (·.f0)) id (i : Int) b l) true := by
  have hl := h.1
  cases b with
  | false =>
    refine Ev.step (fun k => ?_) (hI l id h hid h0 (by omega))
    simp only [laws_FnLineOrder.j3]
    rw [if_neg (by simp), wsucc (by omega)]
  | true =>
    have hpos := hbl rfl
    obtain ⟨v, hv, hv0, hv1⟩ := lawsAtB code hb hn i (by omega)
    obtain ⟨m, hm⟩ : ∃ m : Nat, Int.tmod v ((l.map (·.f0)).length : Int) = (m : Int) ∧ m < l.length := by
      rw [Int.tmod_eq_emod_of_nonneg hv0, List.length_map]
      have h1 := Int.emod_nonneg v (show (l.length : Int) ≠ 0 by omega)
      have h2 := Int.emod_lt_of_pos v (show (0 : Int) < l.length by omega)
      exact ⟨(v % (l.length : Int)).toNat, by omega, by omega⟩
    obtain ⟨hm, hml⟩ := hm
    have hr : rd (l.map (·.f0)) (m : Int) = l[m].f0 := by rw [rd_eq (by simp <;> omega)]; simp
    have hcut : LI (l.take m ++ l.drop (m + 1)) := LI_sub h (by rw [← List.eraseIdx_eq_take_drop_succ]; exact List.eraseIdx_sublist _ _)
    have hcid : ∀ x ∈ l.take m ++ l.drop (m + 1), x.f0 ≤ id := fun x hx => hid x (by rcases List.mem_append.1 hx with hx | hx; exact List.mem_of_mem_take hx; exact List.mem_of_mem_drop hx)
    refine Ev.step (fun k => ?_) (Ev.bind (Cancel_ev l h m hml) (f := fun k bt191 => (if bt191.2.2.2 = true then (if bt191.2.1 = l[m].f0 then ((impl_PlaceOf.f k l l[m].f0).bind fun t201 => (laws_FnLineOrder.j4 k code (l.map (·.f0)) id (i : Int) (m : Int) (t201 != (m : Int)) bt191.1)) else (laws_FnLineOrder.j4 k code (l.map (·.f0)) id (i : Int) (m : Int) true bt191.1)) else (laws_FnLineOrder.j4 k code (l.map (·.f0)) id (i : Int) (m : Int) true bt191.1))) ?_)
    · simp only [laws_FnLineOrder.j3, hv, Option.bind_some, if_true, hm, hr]
      rw [if_neg (by rw [List.length_map]; omega), if_pos (by omega), if_pos (by rw [List.length_map]; omega)]
    · simp only [if_true]
      refine Ev.bind (PlaceOf_ev l h m hml) ?_
      refine Ev.step (fun k => ?_) (lo_l1 code i (by omega) hI (l.map (·.f0)) (by simp <;> omega) m (by simp <;> omega) (l.take m ++ l.drop (m + 1)) hcut id hcid h0 h3 (by simp [List.map_take, List.map_drop]) (l.map (·.f0)).length 0 [] (by omega) (by omega) (by simp) (by rw [if_pos (by omega)]; simp [List.map_take, List.map_drop]))
      simp only [laws_FnLineOrder.j4]
      rw [if_neg (by simp)]
      rfl
theorem lo_j2 (code : List Int) (hb : isB code) (hn : code.length ≤ 1048576) (i : Nat) (hi : i ≤ 100) (hI : loH code (i + 1)) (l : List S65) (h : LI l) (id : Int) (hid : ∀ x ∈ l, x.f0 ≤ id) (h0 : 0 ≤ id) (h3 : id ≤ 3 * (i : Int) + 3) :
    Ev (fun k => laws_FnLineOrder.j2 k code (l.map (·.f0)) id (i : Int) l) true := by
  obtain ⟨v, hv, hv0, hv1⟩ := lawsAtB code hb hn (i + 3) (by omega)
  have hw : wrap64 ((i : Int) + 3) = ((i + 3 : Nat) : Int) := w64n (by omega) (by omega)
  by_cases h7 : Int.tmod v 7 = 0
  · refine Ev.step (fun k => ?_) (lo_j3 code hb hn i hi hI l h id hid h0 h3 (decide (((l.map (·.f0)).length : Int) > 0)) (fun e => by simpa using e))
    simp only [laws_FnLineOrder.j2, hw, hv, Option.bind_some]
    rw [if_pos h7]
  · refine Ev.step (fun k => ?_) (lo_j3 code hb hn i hi hI l h id hid h0 h3 false (fun e => by simp at e))
    simp only [laws_FnLineOrder.j2, hw, hv, Option.bind_some]
    rw [if_neg h7]
theorem lo_last (l : List S65) (h : LI l) (hp : 0 < l.length) (id : Int) : (∀ y ∈ l, y.f0 < id) ↔ (l[l.length - 1]'(by omega)).f0 < id := by
  constructor
  · intro hy
    exact hy _ (List.getElem_mem _)
  · intro hlt y hy
    obtain ⟨j, hj, rfl⟩ := List.getElem_of_mem hy
    have := List.pairwise_iff_getElem.1 h.2.2
    by_cases he : j = l.length - 1
    · subst he; exact hlt
    · have := this j (l.length - 1) hj (by omega) (by omega)
      omega
set_option maxHeartbeats 2000000 in
theorem lo_l0 (code : List Int) (hb : isB code) (hn : code.length ≤ 1048576) (n : Nat) (hn60 : n ≤ 60) (hnv : ∃ v, laws_at.f code 0 = some v ∧ Int.tmod v 60 = (n : Int)) : ∀ (d i : Nat), n - i = d → i ≤ n → loH code i := by
  obtain ⟨v0, hv0, hvn⟩ := hnv
  intro d
  induction d with
  | zero =>
    intro i hd hi l id h hid h0 h3
    refine Ev.step (fun k => ?_) (lo_l2 l h l.length 0 (by omega) (by omega))
    simp only [laws_FnLineOrder.l0, hv0, Option.bind_some, hvn]
    rw [if_neg (by omega)]
    rfl
  | succ d ih =>
    intro i hd hi l id h hid h0 h3
    have hl := h.1
    have hI := ih (i + 1) (by omega) (by omega)
    obtain ⟨a, ha, ha0, ha1⟩ := lawsAtB code hb hn (i + 1) (by omega)
    obtain ⟨c, hc, hc0, hc1⟩ := lawsAtB code hb hn (i + 2) (by omega)
    have hi60 : i ≤ 1000 := by omega
    have hw1 := Aside0.mk (lo_w1 i hi60)
    have hw2 := Aside0.mk (lo_w2 i hi60)
    obtain ⟨nid, hnid, hn0, hn3⟩ := lo_id id a h0 (by omega) ha0
    have hwc := Aside0.mk (lo_c c hc0 hc1)
    have hpush := Push_ev l h nid (1 + c)
    have hsn := LI_snoc h ⟨nid, 1 + c⟩ ⟨by show 1 ≤ 1 + c; omega, by show 1 + c ≤ 200000; omega⟩ (by show nid ≤ 1000000000; omega) (by show 0 ≤ nid; omega)
    rw [← lineB_iff] at hsn
    have hlen : (l.map (·.f0)).length = l.length := List.length_map _
    -- what the law itself reckons: does the ticket fit
    obtain ⟨fits, hfits⟩ : ∃ fits : Bool, fits = lineB (l ++ [⟨nid, 1 + c⟩]) := ⟨_, rfl⟩
    rw [← hfits] at hpush hsn
    have hstep : ∀ R : Nat → List S65 × Bool → Option Bool, (∀ k bt, R k bt = laws_FnLineOrder.j1 k code (l.map (·.f0)) nid (i : Int) bt.2 fits bt.1) → (∀ k, laws_FnLineOrder.l0 (k + 1) code (l.map (·.f0)) id (i : Int) l = (impl_Push.f k l nid (1 + c)).bind (R k)) → Ev (fun k => laws_FnLineOrder.l0 k code (l.map (·.f0)) id (i : Int) l) true := by
      intro R hR hE
      refine Ev.step hE (Ev.bind hpush ?_)
      simp only [hR]
      cases hf : fits with
      | true =>
        rw [hf] at hsn
        obtain ⟨g1, g2, g3⟩ := hsn.1 rfl
        have hLI : LI (l ++ [⟨nid, 1 + c⟩]) := (lineB_iff _).1 (hfits.symm.trans hf)
        refine Ev.step (fun k => ?_) (lo_j2 code hb hn i (by omega) hI (l ++ [⟨nid, 1 + c⟩]) hLI nid (fun x hx => by rcases List.mem_append.1 hx with hx | hx; exact Int.le_of_lt (g3 x hx); rw [List.mem_singleton.1 hx]; exact Int.le_refl _) (by omega) (by omega))
        simp only [laws_FnLineOrder.j1, if_true, hlen, List.map_append, List.map_cons, List.map_nil]
        rw [if_neg (by simp), if_pos (by omega)]
      | false =>
        refine Ev.step (fun k => ?_) (lo_j2 code hb hn i (by omega) hI l h nid (fun x hx => by have := hid x hx; omega) (by omega) (by omega))
        simp only [laws_FnLineOrder.j1, Bool.false_eq_true, if_false]
        rw [if_neg (by simp)]
    have hopen : ∀ k, laws_FnLineOrder.l0 (k + 1) code (l.map (·.f0)) id (i : Int) l = (impl_Push.f k l nid (1 + c)).bind fun bt179 => (if nid > 0 then (if (l.length : Int) < 40 then (if (l.length : Int) = 0 then (laws_FnLineOrder.j1 k code (l.map (·.f0)) nid (i : Int) bt179.2 true bt179.1) else (if 0 ≤ (wrap64 ((l.length : Int) - 1)) then (if (wrap64 ((l.length : Int) - 1)) < (l.length : Int) then (laws_FnLineOrder.j1 k code (l.map (·.f0)) nid (i : Int) bt179.2 (decide ((rd (l.map (·.f0)) (wrap64 ((l.length : Int) - 1))) < nid)) bt179.1) else (none)) else (none))) else (laws_FnLineOrder.j1 k code (l.map (·.f0)) nid (i : Int) bt179.2 false bt179.1)) else (laws_FnLineOrder.j1 k code (l.map (·.f0)) nid (i : Int) bt179.2 false bt179.1)) := by
      intro k
      simp only [laws_FnLineOrder.l0, hv0, Option.bind_some, hvn, hw1.out, hw2.out, ha, hc, hnid.out, hwc.out, hlen]
      rw [if_pos (by omega)]
    refine hstep _ (fun k bt => ?_) hopen
    by_cases g1 : nid > 0
    · rw [if_pos g1]
      by_cases g2 : (l.length : Int) < 40
      · rw [if_pos g2]
        by_cases g3 : (l.length : Int) = 0
        · rw [if_pos g3]
          have : fits = true := hsn.2 ⟨g1, by omega, fun y hy => by have := List.length_pos_of_mem hy; omega⟩
          rw [this]
        · have hpl : 0 < l.length := by omega
          have hr : rd (l.map (·.f0)) ((l.length - 1 : Nat) : Int) = (l[l.length - 1]'(by omega)).f0 := by rw [rd_eq (by simp <;> omega)]; simp
          rw [if_neg g3, lo_wl l.length hpl hl, if_pos (by omega), if_pos (by omega), hr]
          have : fits = decide ((l[l.length - 1]'(by omega)).f0 < nid) := by
            rw [Bool.eq_iff_iff, hsn, decide_eq_true_eq, ← lo_last l h hpl nid]
            exact ⟨fun q => q.2.2, fun q => ⟨g1, by omega, q⟩⟩
          rw [this]
      · rw [if_neg g2]
        have : fits = false := by
          rw [Bool.eq_false_iff]
          exact fun q => g2 (by have := (hsn.1 q).2.1; omega)
        rw [this]
    · rw [if_neg g1]
      have : fits = false := by
        rw [Bool.eq_false_iff]
        exact fun q => g1 (hsn.1 q).1
      rw [this]
theorem FnLineOrder : laws_FnLineOrder.Pure := by
  intro code _ hl hwf
  have hb : isB code := isB_of hwf
  by_cases hbig : (code.length : Int) > 1048576
  · exact ⟨0, by simp only [laws_FnLineOrder.f, laws_big.f, decide_eq_true hbig, Option.bind_some, if_true]⟩
  · obtain ⟨v, hv, hv0, hv1⟩ := lawsAtB code hb (by omega) 0 (by omega)
    have ht : Int.tmod v 60 = ((v % 60).toNat : Int) := by rw [Int.tmod_eq_emod_of_nonneg hv0]; omega
    have h := lo_l0 code hb (by omega) (v % 60).toNat (by omega) ⟨v, hv, ht⟩ (v % 60).toNat 0 (by omega) (by omega) [] 0 ⟨by simp, by simp, List.Pairwise.nil⟩ (by simp) (by omega) (by omega)
    obtain ⟨k, hk⟩ := h.rounds
    refine ⟨k, ?_⟩
    simp only [laws_FnLineOrder.f, laws_big.f, decide_eq_false hbig, Option.bind_some, Bool.false_eq_true, if_false]
    exact hk

end Go.Proofs.Ytbojabmpcfclhaa.Pure

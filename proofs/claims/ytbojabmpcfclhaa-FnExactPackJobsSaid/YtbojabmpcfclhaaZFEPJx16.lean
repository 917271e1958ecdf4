/- Arguments opened: whatever can be read at a type is a value of the printed kind. -/
import Derived.Test.YtbojabmpcfclhaaZFEPJV
import Derived.Lib.SmallJoins
import Derived.Deep.Slices
import Derived.Deep.Fields
import Derived.ChangeSame
import Derived.SizedLaws
namespace Go.Proofs.Ytbojabmpcfclhaa.Opn
open Go.ChangeShapes Go.WideShapes Go.RowKit Go.Joins Go.Deep Go.Proofs.YtbojabmpcfclhaaW.PrintWords Go.Proofs.YtbojabmpcfclhaaW.PrintLast
set_option linter.unusedVariables false

/-- Each reading at type t is a value of kind d that is good. -/
def Opens (P : Program) (t : TypeId) {α : Type} (d : Kd α) (G : α → Prop) : Prop :=
  ∀ {H : Type} (enc : TypeId × Value → H) (w : World) (base : Nat) (sp : Nat → Bool) (held : Bool) (fuel : Nat) (cs : List Value) (x : DataW H × List MemPlace),
    DataW.trod enc P w base sp held fuel t cs = some x → ∃ y : α, d.K w y cs ∧ G y
theorem opens_int {P : Program} {t : TypeId} {k : IntKind} (ht : P.underlying t = some (.int k)) : Opens P t (Kd.int k) (fun n => (Lit.int k n).wf = true) := by
  intro H enc w base sp held fuel cs x h
  obtain ⟨n, h1, _, hw⟩ := DataW.trod_int ht h
  exact ⟨n, h1, hw⟩
theorem opens_iso {P : Program} {t : TypeId} {α β : Type} {d : Kd α} {G : α → Prop} (h : Opens P t d G) (f : β → α) (g : α → β) (hfg : ∀ y, f (g y) = y) : Opens P t (Kd.iso d f) (fun b => G (f b)) := by
  intro H enc w base sp held fuel cs x hx
  obtain ⟨y, hk, hg⟩ := h enc w base sp held fuel cs x hx
  exact ⟨g y, by show d.K w (f (g y)) cs; rw [hfg]; exact hk, by show G (f (g y)); rw [hfg]; exact hg⟩
theorem choose_list {α : Type} {Q : Nat → α → Prop} : ∀ n, (∀ i, i < n → ∃ y, Q i y) → ∃ l : List α, l.length = n ∧ ∀ i y, l[i]? = some y → Q i y := by
  intro n
  induction n with
  | zero => intro _; exact ⟨[], rfl, fun i y h => by simp at h⟩
  | succ n ih =>
    intro h
    obtain ⟨l, hl, hq⟩ := ih (fun i hi => h i (by omega))
    obtain ⟨y, hy⟩ := h n (by omega)
    refine ⟨l ++ [y], by simp [hl], fun i z hz => ?_⟩
    rcases Nat.lt_or_ge i n with hi | hi
    · rw [List.getElem?_append_left (by omega)] at hz
      exact hq i z hz
    · rw [List.getElem?_append_right (by omega), hl] at hz
      have hi' : i = n := by
        rcases Nat.lt_or_ge n i with hlt | hge
        · rw [List.getElem?_eq_none (by simp; omega)] at hz; cases hz
        · omega
      subst hi'
      simp at hz
      exact hz ▸ hy
theorem opens_slice {P : Program} {t e : TypeId} {α : Type} {d : Kd α} {G : α → Prop} (ht : P.underlying t = some (.slice e)) (hc : P.cellsOf e = d.sz) (h : Opens P e d G) :
    Opens P t (Kd.slice e d) (fun l => l.length ≤ maxLen ∧ ∀ y ∈ l, G y) := by
  intro H enc w base sp held fuel cs x hx
  rcases open_slice ht hx with ⟨rfl, _⟩ | ⟨a, len, cap, m, n, D, Pl, rfl, _, hl, hm, hmm, _, hi⟩
  · exact ⟨[], ⟨none, 0, rfl, Nat.le_refl _, rfl, by simp, fun h => absurd h (by simp)⟩, Nat.zero_le _, fun y hy => by simp at hy⟩
  · have hle : len ≤ m := by rw [hmm]; split <;> omega
    obtain ⟨l, hlen, hq⟩ := choose_list (Q := fun i y => (∃ c, c.length = d.sz ∧ d.K w y c ∧ ∀ j u, c[j]? = some u → w.cell? (a.add (i * d.sz + j)) = some u) ∧ G y) len (fun i hil => by
      obtain ⟨cs', h1, h2⟩ := hi i (by omega)
      obtain ⟨y, hk, hg⟩ := h enc w base sp held n cs' _ h2
      obtain ⟨_, hcl, hat⟩ := World.cells?_some h1
      refine ⟨y, ⟨cs', by rw [hcl, hc], hk, fun j u hj => ?_⟩, hg⟩
      have hjl : j < P.cellsOf e := by
        have := (List.getElem?_eq_some_iff.1 hj).1
        omega
      have := hat j hjl
      rw [hc, Go.Deep.add_add] at this
      rw [this, hj])
    subst hlen
    refine ⟨l, ⟨some a, cap, rfl, hl, rfl, by have : maxLen = 9223372036854775807 := rfl; omega, fun _ => ⟨a, rfl, fun j p hj => (hq j p hj).1⟩⟩, Nat.le_trans hl hm, fun y hy => ?_⟩
    obtain ⟨i, hi', rfl⟩ := List.getElem_of_mem hy
    exact (hq i _ (List.getElem?_eq_getElem hi')).2
section
variable {P : Program} {t : TypeId} {α β γ δ ε : Type} {d0 : Kd α} {d1 : Kd β} {d2 : Kd γ} {d3 : Kd δ} {d4 : Kd ε} {G0 : α → Prop} {G1 : β → Prop} {G2 : γ → Prop} {G3 : δ → Prop} {G4 : ε → Prop}
/-- A struct's fields of one cell each, a reading a field. -/
theorem fields_of {fs : Array Field} {H : Type} {enc : TypeId × Value → H} {w : World} {base : Nat} {sp : Nat → Bool} {held : Bool} {fuel : Nat} {cs : List Value} {x : DataW H × List MemPlace}
    (hs : P.underlying t = some (.struct fs)) (hone : oneCellFields P fs = true) (hC : P.cellsOf t = fs.size) (h : DataW.trod enc P w base sp held fuel t cs = some x) :
    cs.length = fs.size ∧ ∃ n, ∀ (j : Nat) (f : Field), fs[j]? = some f → ∃ v y, cs[j]? = some v ∧ DataW.trod enc P w base sp held n f.type [v] = some y := by
  obtain ⟨ys, n, _, _, hlen, hyl, hf⟩ := DataW.trod_struct hs h
  refine ⟨hlen.trans hC, n, fun j f hj => ?_⟩
  obtain ⟨ho, hk⟩ := hone_of hone j f hj
  have hjl : j < fs.size := (Array.getElem?_eq_some_iff.1 hj).1
  have h1 := hf j f hj
  rw [ho, hk, List.drop_eq_getElem_cons (by omega)] at h1
  exact ⟨cs[j]'(by omega), ys[j]'(by omega), List.getElem?_eq_getElem (by omega), h1.trans (List.getElem?_eq_getElem (by omega))⟩
theorem opens_two {f0 f1 : Field} (hs : P.underlying t = some (.struct #[f0, f1])) (hone : oneCellFields P #[f0, f1] = true) (hC : P.cellsOf t = 2) (h0 : Opens P f0.type d0 G0) (h1 : Opens P f1.type d1 G1) :
    Opens P t (Kd.pair d0 d1) (fun p => G0 p.1 ∧ G1 p.2) := by
  intro H enc w base sp held fuel cs x h
  obtain ⟨hl, n, hf⟩ := fields_of hs hone hC h
  obtain ⟨v0, y0, e0, t0⟩ := hf 0 f0 rfl
  obtain ⟨v1, y1, e1, t1⟩ := hf 1 f1 rfl
  obtain ⟨a, ka, ga⟩ := h0 enc w base sp held n _ _ t0
  obtain ⟨b, kb, gb⟩ := h1 enc w base sp held n _ _ t1
  match cs, hl with
  | [c0, c1], _ =>
    obtain rfl : c0 = v0 := by simpa using e0
    obtain rfl : c1 = v1 := by simpa using e1
    exact ⟨(a, b), ⟨[c0], [c1], rfl, ka, kb⟩, ga, gb⟩
theorem opens_three {f0 f1 f2 : Field} (hs : P.underlying t = some (.struct #[f0, f1, f2])) (hone : oneCellFields P #[f0, f1, f2] = true) (hC : P.cellsOf t = 3) (h0 : Opens P f0.type d0 G0) (h1 : Opens P f1.type d1 G1) (h2 : Opens P f2.type d2 G2) :
    Opens P t (Kd.pair d0 (Kd.pair d1 d2)) (fun p => G0 p.1 ∧ G1 p.2.1 ∧ G2 p.2.2) := by
  intro H enc w base sp held fuel cs x h
  obtain ⟨hl, n, hf⟩ := fields_of hs hone hC h
  obtain ⟨v0, y0, e0, t0⟩ := hf 0 f0 rfl
  obtain ⟨v1, y1, e1, t1⟩ := hf 1 f1 rfl
  obtain ⟨v2, y2, e2, t2⟩ := hf 2 f2 rfl
  obtain ⟨a, ka, ga⟩ := h0 enc w base sp held n _ _ t0
  obtain ⟨b, kb, gb⟩ := h1 enc w base sp held n _ _ t1
  obtain ⟨c, kc, gc⟩ := h2 enc w base sp held n _ _ t2
  match cs, hl with
  | [c0, c1, c2], _ =>
    obtain rfl : c0 = v0 := by simpa using e0
    obtain rfl : c1 = v1 := by simpa using e1
    obtain rfl : c2 = v2 := by simpa using e2
    exact ⟨(a, b, c), ⟨[c0], [c1, c2], rfl, ka, [c1], [c2], rfl, kb, kc⟩, ga, gb, gc⟩
theorem opens_five {f0 f1 f2 f3 f4 : Field} (hs : P.underlying t = some (.struct #[f0, f1, f2, f3, f4])) (hone : oneCellFields P #[f0, f1, f2, f3, f4] = true) (hC : P.cellsOf t = 5) (h0 : Opens P f0.type d0 G0) (h1 : Opens P f1.type d1 G1) (h2 : Opens P f2.type d2 G2) (h3 : Opens P f3.type d3 G3) (h4 : Opens P f4.type d4 G4) :
    Opens P t (Kd.pair d0 (Kd.pair d1 (Kd.pair d2 (Kd.pair d3 d4)))) (fun p => G0 p.1 ∧ G1 p.2.1 ∧ G2 p.2.2.1 ∧ G3 p.2.2.2.1 ∧ G4 p.2.2.2.2) := by
  intro H enc w base sp held fuel cs x h
  obtain ⟨hl, n, hf⟩ := fields_of hs hone hC h
  obtain ⟨v0, y0, e0, t0⟩ := hf 0 f0 rfl
  obtain ⟨v1, y1, e1, t1⟩ := hf 1 f1 rfl
  obtain ⟨v2, y2, e2, t2⟩ := hf 2 f2 rfl
  obtain ⟨v3, y3, e3, t3⟩ := hf 3 f3 rfl
  obtain ⟨v4, y4, e4, t4⟩ := hf 4 f4 rfl
  obtain ⟨a, ka, ga⟩ := h0 enc w base sp held n _ _ t0
  obtain ⟨b, kb, gb⟩ := h1 enc w base sp held n _ _ t1
  obtain ⟨c, kc, gc⟩ := h2 enc w base sp held n _ _ t2
  obtain ⟨d, kd, gd⟩ := h3 enc w base sp held n _ _ t3
  obtain ⟨e, ke, ge⟩ := h4 enc w base sp held n _ _ t4
  match cs, hl with
  | [c0, c1, c2, c3, c4], _ =>
    obtain rfl : c0 = v0 := by simpa using e0
    obtain rfl : c1 = v1 := by simpa using e1
    obtain rfl : c2 = v2 := by simpa using e2
    obtain rfl : c3 = v3 := by simpa using e3
    obtain rfl : c4 = v4 := by simpa using e4
    exact ⟨(a, b, c, d, e), ⟨[c0], [c1, c2, c3, c4], rfl, ka, [c1], [c2, c3, c4], rfl, kb, [c2], [c3, c4], rfl, kc, [c3], [c4], rfl, kd, ke⟩, ga, gb, gc, gd, ge⟩
end
/-- A struct that is an argument: its cells, a reading each. -/
theorem agg_fields {P : Program} {t : TypeId} {fs : Array Field} {H : Type} {enc : TypeId × Value → H} {w : World} {base b0 : Nat} {r : Reach} {sp : Nat → Bool} {held : Bool} {v : Value} {d : DataW H} {ps : List MemPlace}
    (hs : P.underlying t = some (.struct fs)) (hone : oneCellFields P fs = true) (hC : P.cellsOf t = fs.size) (hv : Value.okWide P w r b0 t v) (h : DataW.Trod enc P w base sp held t v d ps) :
    ∃ cs : List Value, v = .agg cs.toArray ∧ cs.length = fs.size ∧ ∃ n, ∀ (j : Nat) (f : Field), fs[j]? = some f → ∃ u y, cs[j]? = some u ∧ DataW.trod enc P w base sp held n f.type [u] = some y := by
  obtain ⟨cs, rfl, hsz⟩ := okWide_struct hs hv
  obtain ⟨fuel, hf⟩ := h
  obtain ⟨hl, n, hfs⟩ := fields_of hs hone hC hf
  exact ⟨cs.toList, by simp, by simpa [Value.cells] using hl, n, by simpa [Value.cells] using hfs⟩
/-- A slice's cell, opened. -/
theorem slice_cell {P : Program} {t e : TypeId} {α : Type} {d : Kd α} {G : List α → Prop} (h : Opens P t (Kd.slice e d) G) {H : Type} {enc : TypeId × Value → H} {w : World} {base : Nat} {sp : Nat → Bool} {held : Bool} {n : Nat} {u : Value} {y : DataW H × List MemPlace}
    (hx : DataW.trod enc P w base sp held n t [u] = some y) : ∃ (l : List α) (A : Option Addr) (c : Nat), u = .slice A l.length c ∧ l.length ≤ c ∧ d.C w A l.length l ∧ G l := by
  obtain ⟨l, ⟨A, c, e', hl, hr⟩, hg⟩ := h enc w base sp held n _ _ hx
  exact ⟨l, A, c, (List.cons.inj e').1, hl, hr, hg⟩
theorem int_cell {P : Program} {t : TypeId} {k : IntKind} (ht : P.underlying t = some (.int k)) {H : Type} {enc : TypeId × Value → H} {w : World} {base : Nat} {sp : Nat → Bool} {held : Bool} {n : Nat} {u : Value} {y : DataW H × List MemPlace}
    (hx : DataW.trod enc P w base sp held n t [u] = some y) : ∃ a : Int, u = .int k a ∧ (Lit.int k a).wf = true := by
  obtain ⟨a, e, _, hw⟩ := DataW.trod_int ht hx
  exact ⟨a, (List.cons.inj e).1, hw⟩
/-- A slice that is an argument itself. -/
theorem slice_arg {P : Program} {t e : TypeId} {α : Type} {d : Kd α} {G : List α → Prop} (ht : P.underlying t = some (.slice e)) (h : Opens P t (Kd.slice e d) G) {H : Type} {enc : TypeId × Value → H} {w : World} {base b0 : Nat} {r : Reach} {sp : Nat → Bool} {held : Bool} {v : Value} {dd : DataW H} {ps : List MemPlace}
    (hv : Value.okWide P w r b0 t v) (hx : DataW.Trod enc P w base sp held t v dd ps) : ∃ (l : List α) (A : Option Addr) (c : Nat), v = .slice A l.length c ∧ l.length ≤ c ∧ d.C w A l.length l ∧ G l := by
  obtain ⟨a, len, cap, rfl⟩ := okWide_slice ht hv
  obtain ⟨fuel, hf⟩ := hx
  exact slice_cell h (by simpa [Value.cells] using hf)
theorem list1 {α : Type} {cs : List α} {a : α} (h : cs.length = 1) (h0 : cs[0]? = some a) : cs = [a] := by
  match cs, h with
  | [x], _ => simp at h0; rw [h0]
theorem list2 {α : Type} {cs : List α} {a b : α} (h : cs.length = 2) (h0 : cs[0]? = some a) (h1 : cs[1]? = some b) : cs = [a, b] := by
  match cs, h with
  | [x, y], _ => simp at h0 h1; rw [h0, h1]
theorem list3 {α : Type} {cs : List α} {a b c : α} (h : cs.length = 3) (h0 : cs[0]? = some a) (h1 : cs[1]? = some b) (h2 : cs[2]? = some c) : cs = [a, b, c] := by
  match cs, h with
  | [x, y, z], _ => simp at h0 h1 h2; rw [h0, h1, h2]
theorem list4 {α : Type} {cs : List α} {a b c d : α} (h : cs.length = 4) (h0 : cs[0]? = some a) (h1 : cs[1]? = some b) (h2 : cs[2]? = some c) (h3 : cs[3]? = some d) : cs = [a, b, c, d] := by
  match cs, h with
  | [x, y, z, u], _ => simp at h0 h1 h2 h3; rw [h0, h1, h2, h3]
theorem list5 {α : Type} {cs : List α} {a b c d e : α} (h : cs.length = 5) (h0 : cs[0]? = some a) (h1 : cs[1]? = some b) (h2 : cs[2]? = some c) (h3 : cs[3]? = some d) (h4 : cs[4]? = some e) : cs = [a, b, c, d, e] := by
  match cs, h with
  | [x, y, z, u, v], _ => simp at h0 h1 h2 h3 h4; rw [h0, h1, h2, h3, h4]
end Go.Proofs.Ytbojabmpcfclhaa.Opn

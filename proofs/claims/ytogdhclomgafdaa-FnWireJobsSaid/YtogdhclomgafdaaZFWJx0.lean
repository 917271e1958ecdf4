/- What fieldOf comes to: a table of nine fields, laid in the call itself. -/
import Derived.Test.YtogdhclomgafdaaProg
import Derived.Below
import Derived.Tactics
import Derived.WalkKit
import Derived.KernelRfl
import Derived.Laws.Tables
import Derived.Laws.Rows
import Derived.Laws.CopyOwn
import Derived.Test.YtogdhclomgafdaaZFWJV
namespace Go.Proofs.Ytogdhclomgafdaa.Fld
open Go.RowKit Go.Proofs.YtogdhclomgafdaaW.PrintWords Go.Proofs.YtogdhclomgafdaaW.PrintLast Go.Proofs.YtogdhclomgafdaaW.PrintMore
section
variable {P : Program} {ops : Array Oper} {rest : List Oper} {o : Oper} {a : Act} {Q : Exit → Act → World → Prop}
/-- A literal whose cells are known. -/
theorem build_event {W : World} (hgd : o.guard = none) (t : TypeId) (parts : Array (Nat × Operand)) (ho : o.op = .build t parts) (cells : Array Value)
    (hb : P.built t (parts.map fun (i, x) => (i, a.eval x)).toList = some cells) (h : wpList P ops Q rest (a.put o.dst (.agg cells)) W) : wpList P ops Q (o :: rest) a W := by
  refine wpList_build hgd t parts ho (by rw [hb]; rfl) ?_
  rw [hb]
  exact h
/-- A whole row stored over a block that the call made. -/
theorem lit_event {W : World} (hgd : o.guard = none) (ty : TypeId) (x y : Operand) (ho : o.op = .store ty x y)
    (g : Nat) (cells : Array Value) (hx : a.eval x = .pointer (some ⟨g, 0, none⟩)) (hy : a.eval y = .agg cells)
    (t : TypeId) (old : Array Value) (hg : W.heap[g]? = some (.cells old t (0, 0))) (hi : (P.info? ty).map (·.size) = some cells.size)
    (hold : old.size = cells.size) (h1 : cells.all (·.oneCell') = true) (hN : o.dst = none)
    (h : ∀ w1, w1.heap[g]? = some (.cells cells t (0, 0)) → KeepBut W w1 g none → Below g W w1 → wpList P ops Q rest a w1) : wpList P ops Q (o :: rest) a W := by
  refine wpList_store_row hgd ty x y ho g cells hx hy t old hg hi hold h1 ?_
  rw [hN]
  refine h _ (setRow_heap W g old cells t (0, 0) hg) ⟨by simp, fun i _ hne _ => setRow_other W g i cells hne⟩ ?_
  exact ⟨rfl, rfl, rfl, by simp, fun i hi => setRow_other W g i cells (by omega)⟩
end
def fP : List Int := [17, 97, 193, 257, 7681, 12289, 998244353, 469762049, 1004535809]
def fG : List Int := [3, 5, 5, 3, 17, 11, 3, 3, 3]
def fT : List Int := [4, 5, 6, 8, 9, 12, 23, 26, 21]
def fCells : Array Value := #[.int .i64 17, .int .i64 3, .int .i64 4, .int .i64 97, .int .i64 5, .int .i64 5, .int .i64 193, .int .i64 5, .int .i64 6, .int .i64 257, .int .i64 3, .int .i64 8, .int .i64 7681, .int .i64 17, .int .i64 9, .int .i64 12289, .int .i64 11, .int .i64 12, .int .i64 998244353, .int .i64 3, .int .i64 23, .int .i64 469762049, .int .i64 3, .int .i64 26, .int .i64 1004535809, .int .i64 3, .int .i64 21]
def impl_fieldOf.f (a0 : Int) : Option (Int × Int × Int × Bool) :=
  if a0 < 0 then some (0, 0, 0, false) else if a0 ≥ 9 then some (0, 0, 0, false) else some (rd fP a0, rd fG a0, rd fT a0, true)
theorem fCells_at (i : Nat) (h : i < 9) : fCells[3 * i]? = some (.int .i64 (rd fP i)) ∧ fCells[3 * i + 1]? = some (.int .i64 (rd fG i)) ∧ fCells[3 * i + 2]? = some (.int .i64 (rd fT i)) := by
  match i, h with
  | 0, _ => exact ⟨rfl, rfl, rfl⟩
  | 1, _ => exact ⟨rfl, rfl, rfl⟩
  | 2, _ => exact ⟨rfl, rfl, rfl⟩
  | 3, _ => exact ⟨rfl, rfl, rfl⟩
  | 4, _ => exact ⟨rfl, rfl, rfl⟩
  | 5, _ => exact ⟨rfl, rfl, rfl⟩
  | 6, _ => exact ⟨rfl, rfl, rfl⟩
  | 7, _ => exact ⟨rfl, rfl, rfl⟩
  | 8, _ => exact ⟨rfl, rfl, rfl⟩
theorem fin_below {w w0 w1 w2 w3 : World} {g0 g1 : Nat} (h0 : g0 = w.heap.size) (b0 : Below w.heap.size w w0) (h1 : g1 = w0.heap.size) (b1 : Below w0.heap.size w0 w1) (b2 : Below g1 w1 w2) (b3 : Below g0 w2 w3) : Below w.heap.size w w3 := by
  subst h0 h1
  have s0 := b0.size
  exact ((b0.trans ⟨b1.os, b1.tape, b1.output, b1.size, fun k hk => b1.block k (by omega)⟩).trans ⟨b2.os, b2.tape, b2.output, b2.size, fun k hk => b2.block k (by omega)⟩).trans b3
set_option maxHeartbeats 8000000 in
set_option maxRecDepth 100000 in
theorem no1 (a0 : Int) (h : a0 < 0) (w : World) :
    Calls Try.prog 103 #[.int .i64 a0] w fun e w' => e = .returned (.tuple #[.agg #[.int .i64 0, .int .i64 0, .int .i64 0], .bool false]) ∧ Below w.heap.size w w' := by
  have hu87 := Try.underlying126
  have hu115 := Try.underlying144
  have h1 : decide (a0 < 0) = true := decide_eq_true h
  clear h
  go_enter Try.func103, Try.ntmps103
  go_wp2_with (first
    | ((with_reducible refine gate_dst (N := 2) rfl ?_); refine box_event ?hg (N := 2) ?hd (cs := #[.int .i64 0, .int .i64 0, .int .i64 0]) (t := 126) ?hr ?_; (case hd => rfl); (case hg => rfl); (case hr => first | (go_simp; done) | (go_simp; rfl)); intro g0 hg0 w0 hbox0 hb0; have G0 := Aside0.mk hg0; have X0 := Aside0.mk hbox0; have B0 := Aside0.mk hb0; clear hg0 hbox0 hb0)
    | ((with_reducible refine gate_dst (N := 14) rfl ?_); refine build_event ?hg 144 _ ?ho fCells ?hb ?_; (case hg => rfl); (case ho => rfl); (case hb => kernel_rfl))
    | ((with_reducible refine gate_dst (N := 4) rfl ?_); refine box_event ?hg (N := 4) ?hd (cs := Array.replicate 27 (.int .i64 0)) (t := 144) ?hr ?_; (case hd => rfl); (case hg => rfl); (case hr => first | (go_simp; done) | (go_simp; rfl)); intro g1 hg1 w1 hbox hb; have G1 := Aside0.mk hg1; have X1 := Aside0.mk hbox; have B1 := Aside0.mk hb; clear hg1 hbox hb)
    | ((with_reducible refine gate_store (t := 144) (p := 4) rfl ?_); refine lit_event ?hg 144 (.tmp 4) (.tmp 14) ?ho _ fCells ?hx ?hy 144 _ X1.out ?hi ?hold ?h1 ?hN ?_; (case hg => rfl); (case ho => rfl); (case hx => rfl); (case hy => rfl); (case hi => kernel_rfl); (case hold => kernel_rfl); (case h1 => kernel_rfl); (case hN => rfl); intro w2 hbox2 hk2 hb2; have X2 := Aside0.mk hbox2; have X3 := Aside0.mk (hk2.blk (blk_below X0.out B1.out) (by rw [G1.out]; exact Nat.ne_of_lt (blk_lt X0.out)) (by simp)); have B2 := Aside0.mk hb2; clear hbox2 hk2 hb2)
    | ((with_reducible refine gate_store (t := 126) (p := 2) rfl ?_); refine lit_event ?hg 126 (.tmp 2) (.tmp 21) ?ho _ #[.int .i64 0, .int .i64 0, .int .i64 0] ?hx ?hy 126 _ X3.out ?hi ?hold ?h1 ?hN ?_; (case hg => rfl); (case ho => rfl); (case hx => rfl); (case hy => rfl); (case hi => kernel_rfl); (case hold => kernel_rfl); (case h1 => kernel_rfl); (case hN => rfl); intro w3 hbox4 hk3 hb3; have X4 := Aside0.mk hbox4; have B3 := Aside0.mk hb3; clear hbox4 hk3 hb3))
  refine bodyPost_ret (results_ct rfl _ _ g0 126 #[.int .i64 0, .int .i64 0, .int .i64 0] (0, 0) _ rfl X4.out Try.underlying126 rfl (by kernel_rfl)) rfl ?_
  exact ⟨rfl, fin_below G0.out B0.out G1.out B1.out B2.out B3.out⟩
set_option maxHeartbeats 8000000 in
set_option maxRecDepth 100000 in
theorem no2 (a0 : Int) (h : a0 ≥ 9) (w : World) :
    Calls Try.prog 103 #[.int .i64 a0] w fun e w' => e = .returned (.tuple #[.agg #[.int .i64 0, .int .i64 0, .int .i64 0], .bool false]) ∧ Below w.heap.size w w' := by
  have hu87 := Try.underlying126
  have hu115 := Try.underlying144
  have h1 : decide (a0 < 0) = false := decide_eq_false (by omega)
  have h2 : decide (a0 ≥ 9) = true := decide_eq_true h
  clear h
  go_enter Try.func103, Try.ntmps103
  go_wp2_with (first
    | ((with_reducible refine gate_dst (N := 2) rfl ?_); refine box_event ?hg (N := 2) ?hd (cs := #[.int .i64 0, .int .i64 0, .int .i64 0]) (t := 126) ?hr ?_; (case hd => rfl); (case hg => rfl); (case hr => first | (go_simp; done) | (go_simp; rfl)); intro g0 hg0 w0 hbox0 hb0; have G0 := Aside0.mk hg0; have X0 := Aside0.mk hbox0; have B0 := Aside0.mk hb0; clear hg0 hbox0 hb0)
    | ((with_reducible refine gate_dst (N := 14) rfl ?_); refine build_event ?hg 144 _ ?ho fCells ?hb ?_; (case hg => rfl); (case ho => rfl); (case hb => kernel_rfl))
    | ((with_reducible refine gate_dst (N := 4) rfl ?_); refine box_event ?hg (N := 4) ?hd (cs := Array.replicate 27 (.int .i64 0)) (t := 144) ?hr ?_; (case hd => rfl); (case hg => rfl); (case hr => first | (go_simp; done) | (go_simp; rfl)); intro g1 hg1 w1 hbox hb; have G1 := Aside0.mk hg1; have X1 := Aside0.mk hbox; have B1 := Aside0.mk hb; clear hg1 hbox hb)
    | ((with_reducible refine gate_store (t := 144) (p := 4) rfl ?_); refine lit_event ?hg 144 (.tmp 4) (.tmp 14) ?ho _ fCells ?hx ?hy 144 _ X1.out ?hi ?hold ?h1 ?hN ?_; (case hg => rfl); (case ho => rfl); (case hx => rfl); (case hy => rfl); (case hi => kernel_rfl); (case hold => kernel_rfl); (case h1 => kernel_rfl); (case hN => rfl); intro w2 hbox2 hk2 hb2; have X2 := Aside0.mk hbox2; have X3 := Aside0.mk (hk2.blk (blk_below X0.out B1.out) (by rw [G1.out]; exact Nat.ne_of_lt (blk_lt X0.out)) (by simp)); have B2 := Aside0.mk hb2; clear hbox2 hk2 hb2)
    | ((with_reducible refine gate_store (t := 126) (p := 2) rfl ?_); refine lit_event ?hg 126 (.tmp 2) (.tmp 21) ?ho _ #[.int .i64 0, .int .i64 0, .int .i64 0] ?hx ?hy 126 _ X3.out ?hi ?hold ?h1 ?hN ?_; (case hg => rfl); (case ho => rfl); (case hx => rfl); (case hy => rfl); (case hi => kernel_rfl); (case hold => kernel_rfl); (case h1 => kernel_rfl); (case hN => rfl); intro w3 hbox4 hk3 hb3; have X4 := Aside0.mk hbox4; have B3 := Aside0.mk hb3; clear hbox4 hk3 hb3))
  refine bodyPost_ret (results_ct rfl _ _ g0 126 #[.int .i64 0, .int .i64 0, .int .i64 0] (0, 0) _ rfl X4.out Try.underlying126 rfl (by kernel_rfl)) rfl ?_
  exact ⟨rfl, fin_below G0.out B0.out G1.out B1.out B2.out B3.out⟩
set_option maxHeartbeats 8000000 in
set_option maxRecDepth 100000 in
theorem yes (n : Nat) (h9 : n < 9) (w : World) :
    Calls Try.prog 103 #[.int .i64 n] w fun e w' => e = .returned (.tuple #[.agg #[.int .i64 (rd fP n), .int .i64 (rd fG n), .int .i64 (rd fT n)], .bool true]) ∧ Below w.heap.size w w' := by
  have hu87 := Try.underlying126
  have hu115 := Try.underlying144
  have h1 : decide ((n : Int) < 0) = false := decide_eq_false (by omega)
  have h2 : decide ((n : Int) ≥ 9) = false := decide_eq_false (by omega)
  have h3 : decide (0 ≤ (n : Int)) = true := decide_eq_true (by omega)
  have h4 : decide ((n : Int) < 9) = true := decide_eq_true (by omega)
  go_enter Try.func103, Try.ntmps103
  go_wp2_with (first
    | ((with_reducible refine gate_dst (N := 2) rfl ?_); refine box_event ?hg (N := 2) ?hd (cs := #[.int .i64 0, .int .i64 0, .int .i64 0]) (t := 126) ?hr ?_; (case hd => rfl); (case hg => rfl); (case hr => first | (go_simp; done) | (go_simp; rfl)); intro g0 hg0 w0 hbox0 hb0; have G0 := Aside0.mk hg0; have X0 := Aside0.mk hbox0; have B0 := Aside0.mk hb0; clear hg0 hbox0 hb0)
    | ((with_reducible refine gate_dst (N := 14) rfl ?_); refine build_event ?hg 144 _ ?ho fCells ?hb ?_; (case hg => rfl); (case ho => rfl); (case hb => kernel_rfl))
    | ((with_reducible refine gate_dst (N := 4) rfl ?_); refine box_event ?hg (N := 4) ?hd (cs := Array.replicate 27 (.int .i64 0)) (t := 144) ?hr ?_; (case hd => rfl); (case hg => rfl); (case hr => first | (go_simp; done) | (go_simp; rfl)); intro g1 hg1 w1 hbox hb; have G1 := Aside0.mk hg1; have X1 := Aside0.mk hbox; have B1 := Aside0.mk hb; clear hg1 hbox hb)
    | ((with_reducible refine gate_store (t := 144) (p := 4) rfl ?_); refine lit_event ?hg 144 (.tmp 4) (.tmp 14) ?ho _ fCells ?hx ?hy 144 _ X1.out ?hi ?hold ?h1 ?hN ?_; (case hg => rfl); (case ho => rfl); (case hx => rfl); (case hy => rfl); (case hi => kernel_rfl); (case hold => kernel_rfl); (case h1 => kernel_rfl); (case hN => rfl); intro w2 hbox2 hk2 hb2; have X2 := Aside0.mk hbox2; have X3 := Aside0.mk (hk2.blk (blk_below X0.out B1.out) (by rw [G1.out]; exact Nat.ne_of_lt (blk_lt X0.out)) (by simp)); have B2 := Aside0.mk hb2; have hc0 : w2.cell? ⟨g1, n * 3, none⟩ = some (.int .i64 (rd fP n)) := (blk_cell hbox2 _).trans (by rw [Nat.mul_comm]; exact (fCells_at n h9).1); have hc1 : w2.cell? ⟨g1, n * 3 + 1, none⟩ = some (.int .i64 (rd fG n)) := (blk_cell hbox2 _).trans (by rw [Nat.mul_comm]; exact (fCells_at n h9).2.1); have hc2 : w2.cell? ⟨g1, n * 3 + 2, none⟩ = some (.int .i64 (rd fT n)) := (blk_cell hbox2 _).trans (by rw [Nat.mul_comm]; exact (fCells_at n h9).2.2); clear hbox2 hk2 hb2)
    | ((with_reducible refine gate_store (t := 126) (p := 2) rfl ?_); refine lit_event ?hg 126 (.tmp 2) (.tmp 24) ?ho _ #[.int .i64 (rd fP n), .int .i64 (rd fG n), .int .i64 (rd fT n)] ?hx ?hy 126 _ X3.out ?hi ?hold ?h1 ?hN ?_; (case hg => rfl); (case ho => rfl); (case hx => rfl); (case hy => rfl); (case hi => kernel_rfl); (case hold => kernel_rfl); (case h1 => kernel_rfl); (case hN => rfl); intro w3 hbox4 hk3 hb3; have X4 := Aside0.mk hbox4; have B3 := Aside0.mk hb3; clear hbox4 hk3 hb3))
  refine bodyPost_ret (results_ct rfl _ _ g0 126 #[.int .i64 (rd fP n), .int .i64 (rd fG n), .int .i64 (rd fT n)] (0, 0) _ rfl X4.out Try.underlying126 rfl (by kernel_rfl)) rfl ?_
  exact ⟨rfl, fin_below G0.out B0.out G1.out B1.out B2.out B3.out⟩
theorem impl_fieldOf.calls (a0 : Int) (r1 : Int) (r2 : Int) (r3 : Int) (r4 : Bool) (w : World) (h : impl_fieldOf.f a0 = some (r1, r2, r3, r4)) :
    Calls Try.prog 103 #[.int .i64 a0] w fun e w' => e = .returned (.tuple #[.agg #[.int .i64 r1, .int .i64 r2, .int .i64 r3], .bool r4]) ∧ Below w.heap.size w w' := by
  unfold impl_fieldOf.f at h
  by_cases h1 : a0 < 0
  · rw [if_pos h1] at h
    simp only [Option.some.injEq, Prod.mk.injEq] at h
    obtain ⟨rfl, rfl, rfl, rfl⟩ := h
    exact no1 a0 h1 w
  · rw [if_neg h1] at h
    by_cases h2 : a0 ≥ 9
    · rw [if_pos h2] at h
      simp only [Option.some.injEq, Prod.mk.injEq] at h
      obtain ⟨rfl, rfl, rfl, rfl⟩ := h
      exact no2 a0 h2 w
    · rw [if_neg h2] at h
      simp only [Option.some.injEq, Prod.mk.injEq] at h
      obtain ⟨rfl, rfl, rfl, rfl⟩ := h
      obtain ⟨n, rfl⟩ := Int.eq_ofNat_of_zero_le (show 0 ≤ a0 by omega)
      exact yes n (by omega) w
end Go.Proofs.Ytogdhclomgafdaa.Fld

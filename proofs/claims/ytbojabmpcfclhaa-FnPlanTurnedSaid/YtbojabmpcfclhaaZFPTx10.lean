-- Written by a program of this session (the print of the kit with contracts of this session's own added)
import Derived.Test.YtbojabmpcfclhaaZFPTx9
set_option maxHeartbeats 8000000
set_option maxRecDepth 100000
namespace Go.Proofs.Ytbojabmpcfclhaa.PFnPlanTurned
open Go.RowKit Go.Proofs.YtbojabmpcfclhaaW.PrintWords Go.Proofs.YtbojabmpcfclhaaW.PrintLast Go.Proofs.YtbojabmpcfclhaaW.PrintMore Go.Proofs.YtbojabmpcfclhaaW.PrintPack Go.Proofs.YtbojabmpcfclhaaW.PrintPack
attribute [local go_sem] max2_int min2_int max_two min_two max_three min_three max_four min_four   -- for this text's walks alone
set_option linter.unusedVariables false
set_option linter.unusedSimpArgs false

def impl_vectorField.l0 : Nat → List (List Int) → List (List Int) → Int → Int → Int → Int → Int → Option (Int × Int × Int × Bool)
 | 0, _, _, _, _, _, _, _ => none
 | k + 1, x1, x19, x20, x21, x348000, x348001, x348002 => if x21 < x20 then (if 0 ≤ x21 then (if x21 < (x19.length : Int) then ((impl_logOf.f k ((rd_L3 x19 x21).length : Int)).bind fun t349 => (if t349 < 0 then (some (0, 0, 0, false)) else (if t349 > x348002 then (some (0, 0, 0, false)) else ((impl_field_areElements.f k x348000 x348001 x348002 (rd_L3 x19 x21)).bind fun t350 => (if t350 = true then (if 0 < (x1.length : Int) then (if ((rd_L3 x19 x21).length : Int) = ((rd_L3 x1 0).length : Int) then (impl_vectorField.l0 k x1 x19 x20 (wrap64 (x21 + 1)) x348000 x348001 x348002) else (some (0, 0, 0, false))) else (none)) else (some (0, 0, 0, false))))))) else (none)) else (none)) else (some (x348000, x348001, x348002, true))
def impl_vectorField.f (k : Nat) (a0 : Int) (l1 : List (List Int)) : Option (Int × Int × Int × Bool) := (impl_fieldOf.f a0).bind fun bt343 => (if bt343.2.2.2 = true then (impl_vectorField.l0 k l1 l1 (l1.length : Int) 0 bt343.1 bt343.2.1 bt343.2.2.1) else (some (0, 0, 0, false)))
theorem impl_vectorField.mono_l : ∀ k, (∀ y0 y1 y2 y3 y4 y5 y6, LeO (impl_vectorField.l0 k y0 y1 y2 y3 y4 y5 y6) (impl_vectorField.l0 (k + 1) y0 y1 y2 y3 y4 y5 y6))
 | 0 => fun _ _ _ _ _ _ _ r h => by simp [impl_vectorField.l0] at h
 | k + 1 => by
  have ih0 := impl_vectorField.mono_l k
  · intro y0 y1 y2 y3 y4 y5 y6; unfold impl_vectorField.l0; exact (by repeat' (with_reducible first | exact ih0 _ _ _ _ _ _ _ | exact impl_field_areElements.mono _ _ _ _ _ | exact impl_logOf.mono _ _ | exact LeO.refl _ | exact LeO.none _ | refine LeO.ite ?_ ?_ | refine LeO.bind ?_ (fun _ => ?_)))
theorem impl_vectorField.mono : ∀ a0 a1 k, LeO (impl_vectorField.f k a0 a1) (impl_vectorField.f (k + 1) a0 a1) := by
 intro a0 a1 k; have b0 := impl_vectorField.mono_l k
 unfold impl_vectorField.f
 exact (by repeat' (with_reducible first | exact b0 _ _ _ _ _ _ _ | exact impl_field_areElements.mono _ _ _ _ _ | exact impl_logOf.mono _ _ | exact LeO.refl _ | exact LeO.none _ | refine LeO.ite ?_ ?_ | refine LeO.bind ?_ (fun _ => ?_)))
theorem impl_vectorField.calls (k : Nat) (a0 : Int) (A1 : Option Addr) (c1 : Nat) (l1 : List (List Int)) (r1 : Int) (r2 : Int) (r3 : Int) (r4 : Bool) (w : World) (hr1 : Kd.C (Kd.slice 3 (Kd.int .i64)) w A1 l1.length l1) (hc1 : l1.length ≤ c1) (h : impl_vectorField.f k a0 l1 = some (r1, r2, r3, r4)) :
 Calls Try.prog 69 #[.int .i64 a0, .slice A1 l1.length c1] w fun e w' => e = .returned (.tuple #[.agg #[.int .i64 r1, .int .i64 r2, .int .i64 r3], .bool r4]) ∧ Below w.heap.size w w' := by
 have B0 := Try.underlying95; have g0 := ak hr1; have x0 := ak hc1; clear hr1 hc1; have HB := ak (Below.refl w.heap.size w); have H : ((impl_fieldOf.f a0).bind fun U0 => (if U0.2.2.2 = true then (impl_vectorField.l0 k l1 l1 (l1.length : Int) 0 U0.1 U0.2.1 U0.2.2.1) else (some (0, 0, 0, false)))) = some (r1, r2, r3, r4) := h; clear h; replace H := Option.bind_eq_some_iff.mp H; obtain ⟨⟨z0, z1, z2, z3⟩, Z0, H⟩ := H; (try dsimp only at H); have A3 := ak Z0; clear Z0
 by_cases c4 : z3 = true; rotate_left
 · replace c4 := Bool.eq_false_iff.mpr c4; subst c4; have H1 : (some (0, 0, 0, false)) = some (r1, r2, r3, r4) := by rw [if_neg (show ¬ (false = true) by decide)] at H; exact H
   clear H; have H := H1; clear H1; simp only [Option.some.injEq, Prod.mk.injEq] at H; obtain ⟨rfl, rfl, rfl, rfl⟩ := H; go_enter Try.func69, Try.ntmps69
   go_wp2_with (first | ((with_reducible refine gate_dst (N := 4) rfl ?_); (try (refine gate_guard (by rfl) ?_; dsimp only)); refine boxA 4 #[.int .i64 0, .int .i64 0, .int .i64 0] 95 ?_; intro c0 hg k0 hbox hb; have C0 := ak hbox; have y0 := leA (w := w) hg; have Y0 := leA (w := w) hg; replace HB := bS hb; clear hb hbox hg) | ((with_reducible refine gate_callee (f := 84) rfl ?_); refine goB 13 Try.func84 #[.int .i64 a0] rfl ?_; (with_reducible refine (impl_fieldOf.calls a0 z0 z1 z2 false _ A3.out).mono ?_); rintro e k2 ⟨rfl, hb⟩; refine ⟨_, rfl, ?_⟩; replace C0 := bB C0 hb; replace HB := bS hb; (try clear hb)) | ((with_reducible refine gate_dst (N := 6) rfl ?_); (try (refine gate_guard (by rfl) ?_; dsimp only)); refine boxA 6 #[.int .i64 0, .int .i64 0, .int .i64 0] 95 ?_; intro ca hg k3 hbox hb; have C1 := ak hbox; have y1 := leA (w := w) hg; have Y1 := leA (w := w) hg; have i0 := neL hg C0; have i1 := neG hg C0; replace C0 := bB C0 hb; replace HB := bS hb; clear hb hbox hg; have I0 := i1.out; have j3 := i0.out; obtain ⟨_, _, _, _, _, _⟩ := cel3 C1; obtain ⟨_, _, _, _, _, _⟩ := cel3 C0))
   refine bodyPost_ret (results_ct rfl _ _ c0 95 #[.int .i64 0, .int .i64 0, .int .i64 0] (0, 0) _ rfl (by (with_reducible repeat (first | refine blk_drewN ?_ _ | refine blk_drew ?_ | refine blk_alloc ?_ _)); refine blk_put (cs := #[.int .i64 0, .int .i64 0, .int .i64 0]) ?_ 2 _ rfl; (with_reducible repeat (first | refine blk_drewN ?_ _ | refine blk_drew ?_ | refine blk_alloc ?_ _)); refine blk_put (cs := #[.int .i64 0, .int .i64 0, .int .i64 0]) ?_ 1 _ rfl; (with_reducible repeat (first | refine blk_drewN ?_ _ | refine blk_drew ?_ | refine blk_alloc ?_ _)); refine blk_put (cs := #[.int .i64 0, .int .i64 0, .int .i64 0]) ?_ 0 _ rfl; (with_reducible repeat (first | refine blk_drewN ?_ _ | refine blk_drew ?_ | refine blk_alloc ?_ _)); refine blk_far ?_ i0.out _; (with_reducible repeat (first | refine blk_drewN ?_ _ | refine blk_drew ?_ | refine blk_alloc ?_ _)); refine blk_far ?_ i0.out _; (with_reducible repeat (first | refine blk_drewN ?_ _ | refine blk_drew ?_ | refine blk_alloc ?_ _)); refine blk_far ?_ i0.out _; (with_reducible repeat (first | refine blk_drewN ?_ _ | refine blk_drew ?_ | refine blk_alloc ?_ _)); exact C0.out) Try.underlying95 rfl (by kernel_rfl)) rfl ?_
   exact ⟨xq1, belA⟩
 subst c4; have H1 : (impl_vectorField.l0 k l1 l1 (l1.length : Int) 0 z0 z1 z2) = some (r1, r2, r3, r4) := by rw [if_pos rfl] at H; exact H
 clear H; have H := H1; clear H1; have H' := ak H; clear H; go_enter Try.func69, Try.ntmps69
 go_wp2_with (first | ((with_reducible refine gate_dst (N := 4) rfl ?_); (try (refine gate_guard (by rfl) ?_; dsimp only)); refine boxA 4 #[.int .i64 0, .int .i64 0, .int .i64 0] 95 ?_; intro c0 hg w5 hbox hb; have C0 := ak hbox; have y0 := leA (w := w) hg; have Y0 := leA (w := w) hg; replace HB := bS hb; clear hb hbox hg) | ((with_reducible refine gate_callee (f := 84) rfl ?_); refine goB 13 Try.func84 #[.int .i64 a0] rfl ?_; (with_reducible refine (impl_fieldOf.calls a0 z0 z1 z2 true _ A3.out).mono ?_); rintro e w6 ⟨rfl, hb⟩; refine ⟨_, rfl, ?_⟩; replace C0 := bB C0 hb; replace HB := bS hb; (try clear hb)) | ((with_reducible refine gate_dst (N := 6) rfl ?_); (try (refine gate_guard (by rfl) ?_; dsimp only)); refine boxA 6 #[.int .i64 0, .int .i64 0, .int .i64 0] 95 ?_; intro ca hg w7 hbox hb; have C1 := ak hbox; have y1 := leA (w := w) hg; have Y1 := leA (w := w) hg; have i0 := neL hg C0; have i1 := neG hg C0; replace C0 := bB C0 hb; replace HB := bS hb; clear hb hbox hg; have I1 := i1.out; have j5 := i0.out; obtain ⟨_, _, _, _, _, _⟩ := cel3 C1))
 go_loopg [21] k (fun kq d0 w' => ∃ (W0 : Int) (W1 : Int) (W2 : Int) (W3 : Int), d0 = .int .i64 W0 ∧ Aside0 (impl_vectorField.l0 kq l1 l1 (l1.length : Int) W0 z0 z1 z2 = some (r1, r2, r3, r4)) ∧ Aside0 (kq ≤ k) ∧ Aside0 (w'.heap[c0]? = some (.cells #[.int .i64 W1, .int .i64 W2, .int .i64 W3] 95 (0, 0))) ∧ Aside0 (w'.heap[ca]? = some (.cells #[.int .i64 z0, .int .i64 z1, .int .i64 z2] 95 (0, 0))) ∧ Aside0 (Below w.heap.size w w'))
 case atStart => exact ⟨(0), (0), (0), (0), eqA, H', ⟨Nat.le_refl _⟩, ⟨xq18⟩, ⟨xq24⟩, ⟨belA⟩⟩
 case round =>
  clear H'; obtain ⟨W0, W1, W2, W3, rfl, HA, n0, C0, C1, HB⟩ := hrel
  cases gk with
  | zero => exact absurd HA.out (by simp [impl_vectorField.l0])
  | succ k1 =>
   have H := HA.out; clear HA; simp only [impl_vectorField.l0] at H
   by_cases c10 : W0 < (l1.length : Int); rotate_left
   · rw [if_neg c10] at H; have N0 := decide_eq_false c10; clear c10; simp only [Option.some.injEq, Prod.mk.injEq] at H; obtain ⟨rfl, rfl, rfl, rfl⟩ := H; have I2 := i1.out; have j6 := i0.out; obtain ⟨_, _, _, _, _, _⟩ := cel3 C1; obtain ⟨_, _, _, _, _, _⟩ := cel3 C0; go_wp2
     refine bodyPost_ret (results_ct rfl _ _ c0 95 #[.int .i64 z0, .int .i64 z1, .int .i64 z2] (0, 0) _ rfl (by (with_reducible repeat (first | refine blk_drewN ?_ _ | refine blk_drew ?_ | refine blk_alloc ?_ _)); refine blk_put (cs := #[.int .i64 z0, .int .i64 z1, .int .i64 W3]) ?_ 2 _ rfl; (with_reducible repeat (first | refine blk_drewN ?_ _ | refine blk_drew ?_ | refine blk_alloc ?_ _)); refine blk_put (cs := #[.int .i64 z0, .int .i64 W2, .int .i64 W3]) ?_ 1 _ rfl; (with_reducible repeat (first | refine blk_drewN ?_ _ | refine blk_drew ?_ | refine blk_alloc ?_ _)); refine blk_put (cs := #[.int .i64 W1, .int .i64 W2, .int .i64 W3]) ?_ 0 _ rfl; (with_reducible repeat (first | refine blk_drewN ?_ _ | refine blk_drew ?_ | refine blk_alloc ?_ _)); exact C0.out) Try.underlying95 rfl (by kernel_rfl)) rfl ?_
     exact ⟨xq1, belA⟩
   rw [if_pos c10] at H; have N0 := decide_eq_true c10; clear c10
   by_cases N1 : 0 ≤ W0; rotate_left
   · rw [if_neg N1] at H; exact absurd H (by simp)
   rw [if_pos N1] at H; have N2 := decide_eq_true N1; clear N1
   by_cases N3 : W0 < (l1.length : Int); rotate_left
   · rw [if_neg N3] at H; exact absurd H (by simp)
   rw [if_pos N3] at H; have N4 := decide_eq_true N3; clear N3; replace H := Option.bind_eq_some_iff.mp H; obtain ⟨z4, Z1, H⟩ := H; (try dsimp only at H); have Z2 := ak Z1; clear Z1
   by_cases N5 : z4 < 0
   · rw [if_pos N5] at H; have N6 := decide_eq_true N5; clear N5; simp only [Option.some.injEq, Prod.mk.injEq] at H; obtain ⟨rfl, rfl, rfl, rfl⟩ := H; have v0 : 0 ≤ (W0 : Int) := odA; have V0 : W0 < (l1.length : Int) := odA; obtain ⟨a5, Z3, N7, A0, o0, n1, J0⟩ := at_L3 g0.out W0 v0 V0
     cases A0
     try replace o0 := cB HB o0
     have g1 := ak J0; have x1 := ak n1; clear J0 n1; replace v0 := eq_true v0; replace V0 := eq_true V0; go_wp2_with (first | ((with_reducible refine gate_callee (f := 67) rfl ?_); refine goB 27 Try.func67 #[.int .i64 ((rd_L3 l1 W0).length : Int)] rfl ?_; (with_reducible refine (impl_logOf.calls k1 ((rd_L3 l1 W0).length : Int) z4 _ Z2.out).mono ?_); rintro e w' ⟨rfl, ⟨nd, rfl⟩⟩; refine ⟨_, rfl, ?_⟩; (try (rw [drewN_self wr]; generalize hq_ : World.drewN wr _ = wr; have x2 : Aside0 (wr.heap[c0]? = some (.cells #[.int .i64 W1, .int .i64 W2, .int .i64 W3] 95 (0, 0))) := ⟨xq14⟩; have x3 : Aside0 (wr.heap[ca]? = some (.cells #[.int .i64 z0, .int .i64 z1, .int .i64 z2] 95 (0, 0))) := ⟨xq14⟩; have x4 : Aside0 (Below w.heap.size w wr) := ⟨xq23⟩; have i2 : wr.cell? ⟨c0, 0, none⟩ = some (.int .i64 W1) := bc x2 0; have I3 := blk_frozen x2.out 0; have i3 : wr.cell? ⟨c0, 1, none⟩ = some (.int .i64 W2) := bc x2 1; have I4 := blk_frozen x2.out 1; have i4 : wr.cell? ⟨c0, 2, none⟩ = some (.int .i64 W3) := bc x2 2; have I5 := blk_frozen x2.out 2; have i5 : wr.cell? ⟨ca, 0, none⟩ = some (.int .i64 z0) := bc x3 0; have I6 := blk_frozen x3.out 0; have i6 : wr.cell? ⟨ca, 1, none⟩ = some (.int .i64 z1) := bc x3 1; have I7 := blk_frozen x3.out 1; have i7 : wr.cell? ⟨ca, 2, none⟩ = some (.int .i64 z2) := bc x3 2; have I8 := blk_frozen x3.out 2; clear C0 C1 HB hq_; have C0 := x2; have C1 := x3; have HB := x4; clear x2 x3 x4)); have I9 := i0.out; have j7 := i1.out; obtain ⟨_, _, _, _, _, _⟩ := cel3 C0))
     refine bodyPost_ret (results_ct rfl _ _ c0 95 #[.int .i64 0, .int .i64 0, .int .i64 0] (0, 0) _ rfl xq62 Try.underlying95 rfl (by kernel_rfl)) rfl ?_
     exact ⟨xq1, belA⟩
   rw [if_neg N5] at H; have N6 := decide_eq_false N5; clear N5
   by_cases N8 : z4 > z2
   · rw [if_pos N8] at H; have N9 : decide (z2 < z4) = true := decide_eq_true N8; clear N8; simp only [Option.some.injEq, Prod.mk.injEq] at H; obtain ⟨rfl, rfl, rfl, rfl⟩ := H; have v0 : 0 ≤ (W0 : Int) := odA; have V0 : W0 < (l1.length : Int) := odA; obtain ⟨a5, Z3, N7, A0, o0, n1, J0⟩ := at_L3 g0.out W0 v0 V0
     cases A0
     try replace o0 := cB HB o0
     have g1 := ak J0; have x1 := ak n1; clear J0 n1; replace v0 := eq_true v0; replace V0 := eq_true V0; go_wp2_with (first | ((with_reducible refine gate_callee (f := 67) rfl ?_); refine goB 27 Try.func67 #[.int .i64 ((rd_L3 l1 W0).length : Int)] rfl ?_; (with_reducible refine (impl_logOf.calls k1 ((rd_L3 l1 W0).length : Int) z4 _ Z2.out).mono ?_); rintro e w' ⟨rfl, ⟨nd, rfl⟩⟩; refine ⟨_, rfl, ?_⟩; (try (rw [drewN_self wr]; generalize hq_ : World.drewN wr _ = wr; have x2 : Aside0 (wr.heap[c0]? = some (.cells #[.int .i64 W1, .int .i64 W2, .int .i64 W3] 95 (0, 0))) := ⟨xq14⟩; have x3 : Aside0 (wr.heap[ca]? = some (.cells #[.int .i64 z0, .int .i64 z1, .int .i64 z2] 95 (0, 0))) := ⟨xq14⟩; have x4 : Aside0 (Below w.heap.size w wr) := ⟨xq23⟩; have i2 : wr.cell? ⟨c0, 0, none⟩ = some (.int .i64 W1) := bc x2 0; have I3 := blk_frozen x2.out 0; have i3 : wr.cell? ⟨c0, 1, none⟩ = some (.int .i64 W2) := bc x2 1; have I4 := blk_frozen x2.out 1; have i4 : wr.cell? ⟨c0, 2, none⟩ = some (.int .i64 W3) := bc x2 2; have I5 := blk_frozen x2.out 2; have i5 : wr.cell? ⟨ca, 0, none⟩ = some (.int .i64 z0) := bc x3 0; have I6 := blk_frozen x3.out 0; have i6 : wr.cell? ⟨ca, 1, none⟩ = some (.int .i64 z1) := bc x3 1; have I7 := blk_frozen x3.out 1; have i7 : wr.cell? ⟨ca, 2, none⟩ = some (.int .i64 z2) := bc x3 2; have I8 := blk_frozen x3.out 2; clear C0 C1 HB hq_; have C0 := x2; have C1 := x3; have HB := x4; clear x2 x3 x4)); have Ia := i1.out; have j8 := i0.out; obtain ⟨_, _, _, _, _, _⟩ := cel3 C1; obtain ⟨_, _, _, _, _, _⟩ := cel3 C0))
     refine bodyPost_ret (results_ct rfl _ _ c0 95 #[.int .i64 0, .int .i64 0, .int .i64 0] (0, 0) _ rfl xq62 Try.underlying95 rfl (by kernel_rfl)) rfl ?_
     exact ⟨xq1, belA⟩
   rw [if_neg N8] at H; have N9 : decide (z2 < z4) = false := decide_eq_false N8; clear N8; replace H := Option.bind_eq_some_iff.mp H; obtain ⟨z5, Z4, H⟩ := H; (try dsimp only at H); have Z5 := ak Z4; clear Z4
   by_cases Na : z5 = true; rotate_left
   · replace Na := Bool.eq_false_iff.mpr Na; subst Na; have H1 : (some (0, 0, 0, false)) = some (r1, r2, r3, r4) := by rw [if_neg (show ¬ (false = true) by decide)] at H; exact H
     clear H; have H := H1; clear H1; simp only [Option.some.injEq, Prod.mk.injEq] at H; obtain ⟨rfl, rfl, rfl, rfl⟩ := H; have v0 : 0 ≤ (W0 : Int) := odA; have V0 : W0 < (l1.length : Int) := odA; obtain ⟨a5, Z3, N7, A0, o0, n1, J0⟩ := at_L3 g0.out W0 v0 V0
     cases A0
     try replace o0 := cB HB o0
     have g1 := ak J0; have x1 := ak n1; clear J0 n1; replace v0 := eq_true v0; replace V0 := eq_true V0; go_wp2_with (first | ((with_reducible refine gate_callee (f := 67) rfl ?_); refine goB 27 Try.func67 #[.int .i64 ((rd_L3 l1 W0).length : Int)] rfl ?_; (with_reducible refine (impl_logOf.calls k1 ((rd_L3 l1 W0).length : Int) z4 _ Z2.out).mono ?_); rintro e w' ⟨rfl, ⟨nd, rfl⟩⟩; refine ⟨_, rfl, ?_⟩; (try (rw [drewN_self wr]; generalize hq_ : World.drewN wr _ = wr; have x2 : Aside0 (wr.heap[c0]? = some (.cells #[.int .i64 W1, .int .i64 W2, .int .i64 W3] 95 (0, 0))) := ⟨xq14⟩; have x3 : Aside0 (wr.heap[ca]? = some (.cells #[.int .i64 z0, .int .i64 z1, .int .i64 z2] 95 (0, 0))) := ⟨xq14⟩; have x4 : Aside0 (Below w.heap.size w wr) := ⟨xq23⟩; have i2 : wr.cell? ⟨c0, 0, none⟩ = some (.int .i64 W1) := bc x2 0; have I3 := blk_frozen x2.out 0; have i3 : wr.cell? ⟨c0, 1, none⟩ = some (.int .i64 W2) := bc x2 1; have I4 := blk_frozen x2.out 1; have i4 : wr.cell? ⟨c0, 2, none⟩ = some (.int .i64 W3) := bc x2 2; have I5 := blk_frozen x2.out 2; have i5 : wr.cell? ⟨ca, 0, none⟩ = some (.int .i64 z0) := bc x3 0; have I6 := blk_frozen x3.out 0; have i6 : wr.cell? ⟨ca, 1, none⟩ = some (.int .i64 z1) := bc x3 1; have I7 := blk_frozen x3.out 1; have i7 : wr.cell? ⟨ca, 2, none⟩ = some (.int .i64 z2) := bc x3 2; have I8 := blk_frozen x3.out 2; clear C0 C1 HB hq_; have C0 := x2; have C1 := x3; have HB := x4; clear x2 x3 x4)); have Ib := i1.out; have j9 := i0.out; obtain ⟨_, _, _, _, _, _⟩ := cel3 C1) | (go_at_call 121; (with_reducible refine (impl_field_areElements.calls k1 z0 z1 z2 _ _ (rd_L3 l1 W0) false _ ?side1 ?side2 Z5.out).mono ?_); (case side1 => exact cA (Kd.C_below g1.out HB.out)); (case side2 => exact x1.out); rintro e k4 ⟨rfl, hb⟩; replace C0 := bB C0 hb; replace C1 := bB C1 hb; replace HB := bS hb; (try clear hb); obtain ⟨_, _, _, _, _, _⟩ := cel3 C0))
     refine bodyPost_ret (results_ct rfl _ _ c0 95 #[.int .i64 0, .int .i64 0, .int .i64 0] (0, 0) _ rfl xq62 Try.underlying95 rfl (by kernel_rfl)) rfl ?_
     exact ⟨xq1, belA⟩
   subst Na; have H1 : (if 0 < (l1.length : Int) then (if ((rd_L3 l1 W0).length : Int) = ((rd_L3 l1 0).length : Int) then (impl_vectorField.l0 k1 l1 l1 (l1.length : Int) (wrap64 (W0 + 1)) z0 z1 z2) else (some (0, 0, 0, false))) else (none)) = some (r1, r2, r3, r4) := by rw [if_pos rfl] at H; exact H
   clear H; have H := H1; clear H1
   by_cases Nb : 0 < (l1.length : Int); rotate_left
   · rw [if_neg Nb] at H; exact absurd H (by simp)
   rw [if_pos Nb] at H; have Nc := decide_eq_true Nb; have Nd : decide (0 < l1.length) = true := decide_eq_true (by omega); clear Nb
   by_cases Ne : ((rd_L3 l1 W0).length : Int) = ((rd_L3 l1 0).length : Int)
   · rw [if_pos Ne] at H; have Nf : (((rd_L3 l1 W0).length : Int) == ((rd_L3 l1 0).length : Int)) = true := beq_iff_eq.mpr Ne; have Ng : (((rd_L3 l1 W0).length : Int) != ((rd_L3 l1 0).length : Int)) = false := bne_eq_false_iff_eq.mpr Ne; have Nh : ((rd_L3 l1 W0).length == (rd_L3 l1 0).length) = true := by first | simpa using Ne | (simp at Ne ⊢; omega)
     clear Ne; have H' := ak H; clear H; have v0 : 0 ≤ (W0 : Int) := odA; have V0 : W0 < (l1.length : Int) := odA; obtain ⟨a5, Z3, N7, A0, o0, n1, J0⟩ := at_L3 g0.out W0 v0 V0
     cases A0
     try replace o0 := cB HB o0
     have g1 := ak J0; have x1 := ak n1; clear J0 n1; replace v0 := eq_true v0; replace V0 := eq_true V0; go_wp2_with (first | ((with_reducible refine gate_callee (f := 67) rfl ?_); refine goB 27 Try.func67 #[.int .i64 ((rd_L3 l1 W0).length : Int)] rfl ?_; (with_reducible refine (impl_logOf.calls k1 ((rd_L3 l1 W0).length : Int) z4 _ Z2.out).mono ?_); rintro e w' ⟨rfl, ⟨nd, rfl⟩⟩; refine ⟨_, rfl, ?_⟩; have Ic := i1.out; have ja := i0.out; obtain ⟨_, _, _, _, _, _⟩ := cel3 C1) | (go_at_call 121; (with_reducible refine (impl_field_areElements.calls k1 z0 z1 z2 _ _ (rd_L3 l1 W0) true _ ?side1 ?side2 Z5.out).mono ?_); (case side1 => exact cA (Kd.C_below g1.out belA)); (case side2 => exact x1.out); rintro e k5 ⟨rfl, hb⟩; replace C0 := bB C0 hb; replace C1 := bB C1 hb; replace HB := bS hb; (try clear hb); have v1 : 0 ≤ (0 : Int) := (by omega); have V1 : 0 < (l1.length : Int) := odA; obtain ⟨a6, Z6, Ni, A2, o1, n2, J1⟩ := at_L3 g0.out 0 v1 V1; obtain rfl : a5 = a6 := (by injection A2); have Nj : (0 < l1.length) = True := eq_true (by omega); (try rw [show ((0 : Int)).toNat = 0 from rfl] at o1); (try rw [Addr.add_zero'] at o1); replace o1 := cB HB o1; have g2 := ak J1; have x5 := ak n2; clear J1 n2; replace v1 := eq_true v1; replace V1 := eq_true V1))
     go_roundg k1
     case measure => have := n0.out; omega
     case rel => exact ⟨(wrap64 (W0 + 1)), (W1), (W2), (W3), eqA, H', ⟨xq16⟩, ⟨blkA⟩, ⟨blkA⟩, ⟨belA⟩⟩
   rw [if_neg Ne] at H; have Nf : (((rd_L3 l1 W0).length : Int) == ((rd_L3 l1 0).length : Int)) = false := beq_eq_false_iff_ne.mpr Ne; have Ng : (((rd_L3 l1 W0).length : Int) != ((rd_L3 l1 0).length : Int)) = true := bne_iff_ne.mpr Ne; have Nh : ((rd_L3 l1 W0).length == (rd_L3 l1 0).length) = false := by first | simpa using Ne | (simp at Ne ⊢; omega)
   simp only [Option.some.injEq, Prod.mk.injEq] at H; obtain ⟨rfl, rfl, rfl, rfl⟩ := H; have v0 : 0 ≤ (W0 : Int) := odA; have V0 : W0 < (l1.length : Int) := odA; obtain ⟨a5, Z3, N7, A0, o0, n1, J0⟩ := at_L3 g0.out W0 v0 V0
   cases A0
   try replace o0 := cB HB o0
   have g1 := ak J0; have x1 := ak n1; clear J0 n1; replace v0 := eq_true v0; replace V0 := eq_true V0; go_wp2_with (first | ((with_reducible refine gate_callee (f := 67) rfl ?_); refine goB 27 Try.func67 #[.int .i64 ((rd_L3 l1 W0).length : Int)] rfl ?_; (with_reducible refine (impl_logOf.calls k1 ((rd_L3 l1 W0).length : Int) z4 _ Z2.out).mono ?_); rintro e w' ⟨rfl, ⟨nd, rfl⟩⟩; refine ⟨_, rfl, ?_⟩; (try (rw [drewN_self wr]; generalize hq_ : World.drewN wr _ = wr; have x2 : Aside0 (wr.heap[c0]? = some (.cells #[.int .i64 W1, .int .i64 W2, .int .i64 W3] 95 (0, 0))) := ⟨xq14⟩; have x3 : Aside0 (wr.heap[ca]? = some (.cells #[.int .i64 z0, .int .i64 z1, .int .i64 z2] 95 (0, 0))) := ⟨xq14⟩; have x4 : Aside0 (Below w.heap.size w wr) := ⟨xq23⟩; have i2 : wr.cell? ⟨c0, 0, none⟩ = some (.int .i64 W1) := bc x2 0; have I3 := blk_frozen x2.out 0; have i3 : wr.cell? ⟨c0, 1, none⟩ = some (.int .i64 W2) := bc x2 1; have I4 := blk_frozen x2.out 1; have i4 : wr.cell? ⟨c0, 2, none⟩ = some (.int .i64 W3) := bc x2 2; have I5 := blk_frozen x2.out 2; have i5 : wr.cell? ⟨ca, 0, none⟩ = some (.int .i64 z0) := bc x3 0; have I6 := blk_frozen x3.out 0; have i6 : wr.cell? ⟨ca, 1, none⟩ = some (.int .i64 z1) := bc x3 1; have I7 := blk_frozen x3.out 1; have i7 : wr.cell? ⟨ca, 2, none⟩ = some (.int .i64 z2) := bc x3 2; have I8 := blk_frozen x3.out 2; clear C0 C1 HB hq_; have C0 := x2; have C1 := x3; have HB := x4; clear x2 x3 x4)); have Id := i1.out; have jb := i0.out; obtain ⟨_, _, _, _, _, _⟩ := cel3 C1) | (go_at_call 121; (with_reducible refine (impl_field_areElements.calls k1 z0 z1 z2 _ _ (rd_L3 l1 W0) true _ ?side1 ?side2 Z5.out).mono ?_); (case side1 => exact cA (Kd.C_below g1.out HB.out)); (case side2 => exact x1.out); rintro e k6 ⟨rfl, hb⟩; replace C0 := bB C0 hb; replace C1 := bB C1 hb; replace HB := bS hb; (try clear hb); have v1 : 0 ≤ (0 : Int) := (by omega); have V1 : 0 < (l1.length : Int) := odA; obtain ⟨a6, Z6, Ni, A2, o1, n2, J1⟩ := at_L3 g0.out 0 v1 V1; obtain rfl : a5 = a6 := (by injection A2); have Nj : (0 < l1.length) = True := eq_true (by omega); (try rw [show ((0 : Int)).toNat = 0 from rfl] at o1); (try rw [Addr.add_zero'] at o1); replace o1 := cB HB o1; have g2 := ak J1; have x5 := ak n2; clear J1 n2; replace v1 := eq_true v1; replace V1 := eq_true V1; obtain ⟨_, _, _, _, _, _⟩ := cel3 C0))
   refine bodyPost_ret (results_ct rfl _ _ c0 95 #[.int .i64 0, .int .i64 0, .int .i64 0] (0, 0) _ rfl xq62 Try.underlying95 rfl (by kernel_rfl)) rfl ?_
   exact ⟨xq1, belA⟩

def impl_field_mul.f (a0_0 : Int) (a0_1 : Int) (a0_2 : Int) (a1 : Int) (a2 : Int) : Option (Int) := if a0_0 = 0 then (none) else (some (Int.tmod (wrap64 (a1 * a2)) a0_0))
theorem impl_field_mul.calls (a0_0 : Int) (a0_1 : Int) (a0_2 : Int) (a1 : Int) (a2 : Int) (r : Int) (w : World) (h : impl_field_mul.f a0_0 a0_1 a0_2 a1 a2 = some r) :
 Calls Try.prog 123 #[.agg #[.int .i64 a0_0, .int .i64 a0_1, .int .i64 a0_2], .int .i64 a1, .int .i64 a2] w fun e w' => e = .returned (.int .i64 r) ∧ Below w.heap.size w w' := by
 have B0 := Try.underlying95; have HB := ak (Below.refl w.heap.size w); have H : (if a0_0 = 0 then (none) else (some (Int.tmod (wrap64 (a1 * a2)) a0_0))) = some r := h; clear h
 by_cases c4 : a0_0 = 0
 · rw [if_pos c4] at H; exact absurd H (by simp)
 rw [if_neg c4] at H; have N0 : (a0_0 == 0) = false := beq_eq_false_iff_ne.mpr c4; have N1 : (a0_0 != 0) = true := bne_iff_ne.mpr c4; obtain rfl := Option.some.inj H; go_enter Try.func123, Try.ntmps123
 go_wp2_with (first | ((with_reducible refine gate_dst (N := 3) rfl ?_); refine boxA 3 #[.int .i64 a0_0, .int .i64 a0_1, .int .i64 a0_2] 95 ?_; intro c0 hg w5 hbox hb; have C0 := ak hbox; have y0 := leA (w := w) hg; have Y0 := leA (w := w) hg; replace HB := bS hb; clear hb hbox hg; obtain ⟨_, _, _, _, _, _⟩ := cel3 C0))
 go_ret
 exact ⟨xq1, belA⟩

def impl_field_power.l0 : Nat → Int → Int → Int → Int → Int → Int → Option (Int)
 | 0, _, _, _, _, _, _ => none
 | k + 1, x1, x2, x7, x354000, x354001, x354002 => if x2 > 0 then (if (Int.tmod x2 2) = 1 then ((impl_field_mul.f x354000 x354001 x354002 x7 x1).bind fun t354 => ((impl_field_mul.f x354000 x354001 x354002 x1 x1).bind fun t355 => (impl_field_power.l0 k t355 (wrap64 (Int.tdiv x2 2)) t354 x354000 x354001 x354002))) else ((impl_field_mul.f x354000 x354001 x354002 x1 x1).bind fun t356 => (impl_field_power.l0 k t356 (wrap64 (Int.tdiv x2 2)) x7 x354000 x354001 x354002))) else (some x7)
def impl_field_power.f (k : Nat) (a0_0 : Int) (a0_1 : Int) (a0_2 : Int) (a1 : Int) (a2 : Int) : Option (Int) := impl_field_power.l0 k a1 a2 1 a0_0 a0_1 a0_2
theorem impl_field_power.mono_l : ∀ k, (∀ y0 y1 y2 y3 y4 y5, LeO (impl_field_power.l0 k y0 y1 y2 y3 y4 y5) (impl_field_power.l0 (k + 1) y0 y1 y2 y3 y4 y5))
 | 0 => fun _ _ _ _ _ _ r h => by simp [impl_field_power.l0] at h
 | k + 1 => by
  have ih0 := impl_field_power.mono_l k
  · intro y0 y1 y2 y3 y4 y5; unfold impl_field_power.l0; exact xq123
theorem impl_field_power.mono : ∀ a0 a1 a2 a3 a4 k, LeO (impl_field_power.f k a0 a1 a2 a3 a4) (impl_field_power.f (k + 1) a0 a1 a2 a3 a4) := by
 intro a0 a1 a2 a3 a4 k; have b0 := impl_field_power.mono_l k
 unfold impl_field_power.f
 exact xq124
theorem impl_field_power.calls (k : Nat) (a0_0 : Int) (a0_1 : Int) (a0_2 : Int) (a1 : Int) (a2 : Int) (r : Int) (w : World) (h : impl_field_power.f k a0_0 a0_1 a0_2 a1 a2 = some r) :
 Calls Try.prog 124 #[.agg #[.int .i64 a0_0, .int .i64 a0_1, .int .i64 a0_2], .int .i64 a1, .int .i64 a2] w fun e w' => e = .returned (.int .i64 r) ∧ Below w.heap.size w w' := by
 have B0 := Try.underlying95; have HB := ak (Below.refl w.heap.size w); have H : (impl_field_power.l0 k a1 a2 1 a0_0 a0_1 a0_2) = some r := h; clear h; have H' := ak H; clear H; go_enter Try.func124, Try.ntmps124
 go_wp2_with (first | ((with_reducible refine gate_dst (N := 3) rfl ?_); refine boxA 3 #[.int .i64 a0_0, .int .i64 a0_1, .int .i64 a0_2] 95 ?_; intro c0 hg w4 hbox hb; have C0 := ak hbox; have y0 := leA (w := w) hg; have Y0 := leA (w := w) hg; replace HB := bS hb; clear hb hbox hg))
 go_loopg [1, 2, 7] k (fun kq v1 v2 v7 w' => ∃ (W0 : Int) (W1 : Int) (W2 : Int), v1 = .int .i64 W0 ∧ v2 = .int .i64 W1 ∧ v7 = .int .i64 W2 ∧ Aside0 (impl_field_power.l0 kq W0 W1 W2 a0_0 a0_1 a0_2 = some r) ∧ Aside0 (kq ≤ k) ∧ Aside0 (w'.heap[c0]? = some (.cells #[.int .i64 a0_0, .int .i64 a0_1, .int .i64 a0_2] 95 (0, 0))) ∧ Aside0 (Below w.heap.size w w'))
 case atStart => exact ⟨(a1), (a2), (1), eqA, eqA, eqA, H', ⟨Nat.le_refl _⟩, ⟨blkA⟩, ⟨belA⟩⟩
 case round =>
  clear H'; obtain ⟨W0, W1, W2, rfl, rfl, rfl, HA, n0, C0, HB⟩ := hrel
  cases gk with
  | zero => exact absurd HA.out (by simp [impl_field_power.l0])
  | succ k1 =>
   have H := HA.out; clear HA; simp only [impl_field_power.l0] at H
   by_cases c5 : W1 > 0; rotate_left
   · rw [if_neg c5] at H; have N0 : decide (0 < W1) = false := decide_eq_false c5; clear c5; obtain rfl := Option.some.inj H; go_wp2
     go_ret
     exact ⟨xq1, belA⟩
   rw [if_pos c5] at H; have N0 : decide (0 < W1) = true := decide_eq_true c5; clear c5
   by_cases c6 : (Int.tmod W1 2) = 1; rotate_left
   · rw [if_neg c6] at H; have N1 : ((Int.tmod W1 2) == 1) = false := beq_eq_false_iff_ne.mpr c6; have N2 : ((Int.tmod W1 2) != 1) = true := bne_iff_ne.mpr c6; replace H := Option.bind_eq_some_iff.mp H; obtain ⟨z0, Z0, H⟩ := H; (try dsimp only at H); have Z1 := ak Z0; clear Z0; have H' := ak H; clear H; obtain ⟨_, _, _, _, _, _⟩ := cel3 C0; go_wp2_with (first | ((with_reducible refine gate_callee (f := 123) rfl ?_); refine goB 22 Try.func123 #[.agg #[.int .i64 a0_0, .int .i64 a0_1, .int .i64 a0_2], .int .i64 W0, .int .i64 W0] rfl ?_; (with_reducible refine (impl_field_mul.calls a0_0 a0_1 a0_2 W0 W0 z0 _ Z1.out).mono ?_); rintro e k0 ⟨rfl, hb⟩; refine ⟨_, rfl, ?_⟩; replace C0 := bB C0 hb; replace HB := bS hb; (try clear hb)))
     go_roundg k1
     case measure => have := n0.out; omega
     case rel => exact ⟨(z0), (wrap64 (Int.tdiv W1 2)), (W2), eqA, eqA, eqA, H', ⟨xq16⟩, ⟨blkA⟩, ⟨belA⟩⟩
   rw [if_pos c6] at H; have N1 : ((Int.tmod W1 2) == 1) = true := beq_iff_eq.mpr c6; have N2 : ((Int.tmod W1 2) != 1) = false := bne_eq_false_iff_eq.mpr c6; clear c6; replace H := Option.bind_eq_some_iff.mp H; obtain ⟨z1, Z2, H⟩ := H; (try dsimp only at H); have A7 := ak Z2; clear Z2; replace H := Option.bind_eq_some_iff.mp H; obtain ⟨z2, Z3, H⟩ := H; (try dsimp only at H); have A8 := ak Z3; clear Z3; have H' := ak H; clear H; obtain ⟨_, _, _, _, _, _⟩ := cel3 C0; go_wp2_with (first | ((with_reducible refine gate_callee (f := 123) rfl ?_); refine goB 18 Try.func123 #[.agg #[.int .i64 a0_0, .int .i64 a0_1, .int .i64 a0_2], .int .i64 W2, .int .i64 W0] rfl ?_; (with_reducible refine (impl_field_mul.calls a0_0 a0_1 a0_2 W2 W0 z1 _ A7.out).mono ?_); rintro e k2 ⟨rfl, hb⟩; refine ⟨_, rfl, ?_⟩; replace C0 := bB C0 hb; replace HB := bS hb; (try clear hb); obtain ⟨_, _, _, _, _, _⟩ := cel3 C0) | ((with_reducible refine gate_callee (f := 123) rfl ?_); refine goB 22 Try.func123 #[.agg #[.int .i64 a0_0, .int .i64 a0_1, .int .i64 a0_2], .int .i64 W0, .int .i64 W0] rfl ?_; (with_reducible refine (impl_field_mul.calls a0_0 a0_1 a0_2 W0 W0 z2 _ A8.out).mono ?_); rintro e k3 ⟨rfl, hb⟩; refine ⟨_, rfl, ?_⟩; replace C0 := bB C0 hb; replace HB := bS hb; (try clear hb)))
   go_roundg k1
   case measure => have := n0.out; omega
   case rel => exact ⟨(z2), (wrap64 (Int.tdiv W1 2)), (z1), eqA, eqA, eqA, H', ⟨xq16⟩, ⟨blkA⟩, ⟨belA⟩⟩

def impl_field_root.f (k : Nat) (a0_0 : Int) (a0_1 : Int) (a0_2 : Int) (a1 : Int) : Option (Int) := if 0 ≤ a1 then ((impl_field_power.f k a0_0 a0_1 a0_2 a0_1 (shr .i64 (wrap64 (a0_0 - 1)) a1)).bind fun t358 => (some t358)) else (none)
theorem impl_field_root.mono : ∀ a0 a1 a2 a3 k, LeO (impl_field_root.f k a0 a1 a2 a3) (impl_field_root.f (k + 1) a0 a1 a2 a3) := by
 intro a0 a1 a2 a3 k
 unfold impl_field_root.f
 exact (by repeat' (with_reducible first | exact impl_field_power.mono _ _ _ _ _ _ | exact LeO.refl _ | exact LeO.none _ | refine LeO.ite ?_ ?_ | refine LeO.bind ?_ (fun _ => ?_)))
def impl_field_root.T1 : Bool × List (List Nat × List Nat) := (true, [([], []), ([], []), ([1], [1]), ([], []), ([3], [3]), ([4], [4]), ([], []), ([5, 6], [5, 6]), ([0, 2, 7], [0, 2, 7]), ([8, 8, 0, 1, 2, 3, 4, 5, 6, 7, 8], [8])])
def impl_field_root.B1 : List Nat := [0, 0, 2, 0, 8, 24, 0, 120, 255, 511]
theorem impl_field_root.tab1 : rtab .any (opsOf Try.f122 1) = impl_field_root.T1 := by kernel_rfl
theorem impl_field_root.bits1 : waitsOk impl_field_root.T1.2 impl_field_root.B1 = true := by kernel_rfl
theorem impl_field_root.calls (k : Nat) (a0_0 : Int) (a0_1 : Int) (a0_2 : Int) (a1 : Int) (r : Int) (w : World) (h : impl_field_root.f k a0_0 a0_1 a0_2 a1 = some r) :
 Calls Try.prog 122 #[.agg #[.int .i64 a0_0, .int .i64 a0_1, .int .i64 a0_2], .int .i64 a1] w fun e w' => e = .returned (.int .i64 r) ∧ Below w.heap.size w w' := by
 have B0 := Try.underlying95; have HB := ak (Below.refl w.heap.size w); have H : (if 0 ≤ a1 then ((impl_field_power.f k a0_0 a0_1 a0_2 a0_1 (shr .i64 (wrap64 (a0_0 - 1)) a1)).bind fun z0 => (some z0)) else (none)) = some r := h; clear h
 by_cases c3 : 0 ≤ a1; rotate_left
 · rw [if_neg c3] at H; exact absurd H (by simp)
 rw [if_pos c3] at H; have N0 := eq_true c3; have N1 : decide (0 ≤ a1) = true := decide_eq_true c3; clear c3; obtain ⟨J0, G0⟩ : ∃ j_ : Int, (shr .i64 (wrap64 (a0_0 - 1)) a1) = j_ := ⟨_, rfl⟩; replace H : ((impl_field_power.f k a0_0 a0_1 a0_2 a0_1 (J0)).bind fun z0 => (some z0)) = some r := by first | (rw [G0] at H; exact H) | (simp only [G0] at H ⊢; exact H)
 have G1 : ((wrap64 (a0_0 - 1)) / 2 ^ min a1.toNat 64) = J0 := G0; have hji4z : a1 ≤ 64 → ((wrap64 (a0_0 - 1)) / 2 ^ a1.toNat) = J0 := shr_small G0; replace H := Option.bind_eq_some_iff.mp H; obtain ⟨z0, Z0, H⟩ := H; (try dsimp only at H); have A5 := ak Z0; clear Z0; obtain rfl := Option.some.inj H; go_enter Try.func122, Try.ntmps122
 try go_wp2_with (first | ((with_reducible refine gate_dst (N := 2) rfl ?_); refine boxA 2 #[.int .i64 a0_0, .int .i64 a0_1, .int .i64 a0_2] 95 ?_; intro c0 hg w6 hbox hb; have C0 := ak hbox; have y0 := leA (w := w) hg; have Y0 := leA (w := w) hg; replace HB := bS hb; clear hb hbox hg))
 replace C0 := ak (blk_drew C0.out); replace HB := ak (below_drew1 HB.out); refine start_ (n := 10) (S := fun w' => w'.cell? ⟨c0, 0, none⟩ = some (.int .i64 a0_0) ∧ w'.cell? ⟨c0, 1, none⟩ = some (.int .i64 a0_1) ∧ w'.cell? ⟨c0, 2, none⟩ = some (.int .i64 a0_2)) (ds := []) _ (by kernel_rfl) rfl rfl ⟨bc C0 0, bc C0 1, bc C0 2⟩ (fun hHeld => ?_); refine with_tabW impl_field_root.tab1 impl_field_root.bits1 (fun HT_ HW_ => ?_)
 generalize w6.drew = w7 at C0 HB hHeld ⊢
 refine pR 1 6 (ba 10 2) ?_; refine pR 3 8 (ba 10 10) ?_; refine pR 6 11 (ba 10 74) ?_; refine tR3 0 5 (ba 10 75) ?_; refine tR3 2 7 (ba 10 79) ?_; refine tR3 4 9 (ba 10 95) ?_; refine pR 5 10 (ba 10 127) ?_; refine pR 7 12 (ba 10 255) ?_
 refine one_ (i := 8) (N := some 13) (ba 10 511) rfl rfl (one_of HT_.out (by kernel_rfl)) (by decide) (fun K hK => ?_)
 refine goes_ Try.func124 (by kernel_rfl) rfl #[.agg #[.int .i64 a0_0, .int .i64 a0_1, .int .i64 a0_2], .int .i64 a0_1, .int .i64 J0] (by rfl) rfl rfl xq125 ?_
 with_reducible refine (impl_field_power.calls k a0_0 a0_1 a0_2 a0_1 J0 z0 _ A5.out).mono ?_
 rintro e w8 ⟨rfl, hb⟩
 refine ⟨_, rfl, ?_⟩
 replace C0 := bB C0 hb; replace HB := bS hb; (try clear hb); refine hK.out _ _ ⟨bc C0 0, bc C0 1, bc C0 2⟩ (fun hHeld => ?_)
 clear hK K; refine nR 13 ?_; refine pR 9 4 (ba 10 1023) ?_
 refine done_ (done_of HT_.out (by kernel_rfl)) ?_
 try go_wp2
 go_ret
 exact ⟨xq37, belA⟩

def impl_field_add.f (a0_0 : Int) (a0_1 : Int) (a0_2 : Int) (a1 : Int) (a2 : Int) : Option (Int) := if a0_0 = 0 then (none) else (some (Int.tmod (wrap64 (a1 + a2)) a0_0))
theorem impl_field_add.calls (a0_0 : Int) (a0_1 : Int) (a0_2 : Int) (a1 : Int) (a2 : Int) (r : Int) (w : World) (h : impl_field_add.f a0_0 a0_1 a0_2 a1 a2 = some r) :
 Calls Try.prog 125 #[.agg #[.int .i64 a0_0, .int .i64 a0_1, .int .i64 a0_2], .int .i64 a1, .int .i64 a2] w fun e w' => e = .returned (.int .i64 r) ∧ Below w.heap.size w w' := by
 have B0 := Try.underlying95; have HB := ak (Below.refl w.heap.size w); have H : (if a0_0 = 0 then (none) else (some (Int.tmod (wrap64 (a1 + a2)) a0_0))) = some r := h; clear h
 by_cases c4 : a0_0 = 0
 · rw [if_pos c4] at H; exact absurd H (by simp)
 rw [if_neg c4] at H; have N0 : (a0_0 == 0) = false := beq_eq_false_iff_ne.mpr c4; have N1 : (a0_0 != 0) = true := bne_iff_ne.mpr c4; obtain rfl := Option.some.inj H; go_enter Try.func125, Try.ntmps125
 go_wp2_with (first | ((with_reducible refine gate_dst (N := 3) rfl ?_); refine boxA 3 #[.int .i64 a0_0, .int .i64 a0_1, .int .i64 a0_2] 95 ?_; intro c0 hg w5 hbox hb; have C0 := ak hbox; have y0 := leA (w := w) hg; have Y0 := leA (w := w) hg; replace HB := bS hb; clear hb hbox hg; obtain ⟨_, _, _, _, _, _⟩ := cel3 C0))
 go_ret
 exact ⟨xq1, belA⟩

def impl_field_sub.f (a0_0 : Int) (a0_1 : Int) (a0_2 : Int) (a1 : Int) (a2 : Int) : Option (Int) := if a0_0 = 0 then (none) else (some (Int.tmod (wrap64 ((wrap64 (a1 - a2)) + a0_0)) a0_0))
theorem impl_field_sub.calls (a0_0 : Int) (a0_1 : Int) (a0_2 : Int) (a1 : Int) (a2 : Int) (r : Int) (w : World) (h : impl_field_sub.f a0_0 a0_1 a0_2 a1 a2 = some r) :
 Calls Try.prog 126 #[.agg #[.int .i64 a0_0, .int .i64 a0_1, .int .i64 a0_2], .int .i64 a1, .int .i64 a2] w fun e w' => e = .returned (.int .i64 r) ∧ Below w.heap.size w w' := by
 have B0 := Try.underlying95; have HB := ak (Below.refl w.heap.size w); have H : (if a0_0 = 0 then (none) else (some (Int.tmod (wrap64 ((wrap64 (a1 - a2)) + a0_0)) a0_0))) = some r := h; clear h
 by_cases c4 : a0_0 = 0
 · rw [if_pos c4] at H; exact absurd H (by simp)
 rw [if_neg c4] at H; have N0 : (a0_0 == 0) = false := beq_eq_false_iff_ne.mpr c4; have N1 : (a0_0 != 0) = true := bne_iff_ne.mpr c4; obtain rfl := Option.some.inj H; go_enter Try.func126, Try.ntmps126
 go_wp2_with (first | ((with_reducible refine gate_dst (N := 3) rfl ?_); refine boxA 3 #[.int .i64 a0_0, .int .i64 a0_1, .int .i64 a0_2] 95 ?_; intro c0 hg w5 hbox hb; have C0 := ak hbox; have y0 := leA (w := w) hg; have Y0 := leA (w := w) hg; replace HB := bS hb; clear hb hbox hg; obtain ⟨_, _, _, _, _, _⟩ := cel3 C0))
 go_ret
 exact ⟨xq1, belA⟩

end Go.Proofs.Ytbojabmpcfclhaa.PFnPlanTurned

-- Written by a program of this session (the print of the kit with contracts of this session's own added)
import Derived.Test.YtbojabmpcfclhaaZFPTx12
import Derived.Test.YtbojabmpcfclhaaZFPTx14
set_option maxHeartbeats 8000000
set_option maxRecDepth 100000
namespace Go.Proofs.Ytbojabmpcfclhaa.PFnPlanTurned
open Go.RowKit Go.Proofs.YtbojabmpcfclhaaW.PrintWords Go.Proofs.YtbojabmpcfclhaaW.PrintLast Go.Proofs.YtbojabmpcfclhaaW.PrintMore Go.Proofs.YtbojabmpcfclhaaW.PrintPack Go.Proofs.YtbojabmpcfclhaaW.PrintPack
set_option linter.unusedVariables false
set_option linter.unusedSimpArgs false

mutual
def impl_SplitPlan.j0 : Nat → Int → Bool → Int → Int → List (S36) → Option (Int × Int × (List (S36)) × Bool)
 | 0, _, _, _, _, _ => none
 | k + 1, x1, x15, x446000, x446001, x446002 => if x15 = true then (some (0, 0, ([] : List (S36)), false)) else (impl_SplitPlan.l0 k x1 x446002 (x446002.length : Int) 0 x446000 x446001 ([] : List (S36)))
def impl_SplitPlan.l0 : Nat → Int → List (S36) → Int → Int → Int → Int → List (S36) → Option (Int × Int × (List (S36)) × Bool)
 | 0, _, _, _, _, _, _, _ => none
 | k + 1, x1, x23, x24, x25, x449000, x449001, x449002 => if x25 < x24 then (if 0 ≤ x25 then (if x25 < (x23.length : Int) then ((impl_ranges.f k ((rd_T36 x23 x25).f0) ((rd_T36 x23 x25).f1) ((rd_T36 x23 x25).f2) x1).bind fun t451 => (if x449002.length + t451.length < 5864062014805 then (impl_SplitPlan.l0 k x1 x23 x24 (wrap64 (x25 + 1)) x449000 x449001 (x449002 ++ t451)) else (none))) else (none)) else (none)) else (if (x449002.length : Int) > 600 then (some (0, 0, ([] : List (S36)), false)) else (some (x449000, x449001, x449002, true)))
end
def impl_SplitPlan.f (k : Nat) (a0_0 : Int) (a0_1 : Int) (l0_2 : List (S36)) (a1 : Int) : Option (Int × Int × (List (S36)) × Bool) := (impl_isPlan.f k a0_0 a0_1 l0_2).bind fun t447 => (if t447 = true then (impl_SplitPlan.j0 k a1 (decide (a1 < 1)) a0_0 a0_1 l0_2) else (impl_SplitPlan.j0 k a1 true a0_0 a0_1 l0_2))
theorem impl_SplitPlan.mono_l : ∀ k, (∀ y0 y1 y2 y3 y4, LeO (impl_SplitPlan.j0 k y0 y1 y2 y3 y4) (impl_SplitPlan.j0 (k + 1) y0 y1 y2 y3 y4)) ∧ (∀ y0 y1 y2 y3 y4 y5 y6, LeO (impl_SplitPlan.l0 k y0 y1 y2 y3 y4 y5 y6) (impl_SplitPlan.l0 (k + 1) y0 y1 y2 y3 y4 y5 y6))
 | 0 => ⟨fun _ _ _ _ _ r h => by simp [impl_SplitPlan.j0] at h, fun _ _ _ _ _ _ _ r h => by simp [impl_SplitPlan.l0] at h⟩
 | k + 1 => by
  obtain ⟨ih0, ih1⟩ := impl_SplitPlan.mono_l k; refine ⟨?_, ?_⟩
  · intro y0 y1 y2 y3 y4; unfold impl_SplitPlan.j0; exact xq97
  · intro y0 y1 y2 y3 y4 y5 y6; unfold impl_SplitPlan.l0; exact xq97
theorem impl_SplitPlan.mono : ∀ a0 a1 a2 a3 k, LeO (impl_SplitPlan.f k a0 a1 a2 a3) (impl_SplitPlan.f (k + 1) a0 a1 a2 a3) := by
 intro a0 a1 a2 a3 k; obtain ⟨b0, b1⟩ := impl_SplitPlan.mono_l k
 unfold impl_SplitPlan.f
 exact (by repeat' (with_reducible first | exact b0 _ _ _ _ _ | exact b1 _ _ _ _ _ _ _ | exact impl_isPlan.mono _ _ _ _ | exact impl_ranges.mono _ _ _ _ _ | exact LeO.refl _ | exact LeO.none _ | refine LeO.ite ?_ ?_ | refine LeO.bind ?_ (fun _ => ?_)))
def impl_SplitPlan.T7 : Bool × List (List Nat × List Nat) := (true, [([], []), ([0], [0]), ([], []), ([], []), ([2, 3], [2, 3]), ([1, 4, 4], [1, 4]), ([0, 1, 2, 3, 4, 5], []), ([6, 5, 5, 0, 1, 2, 3, 4, 5], [5, 6])])
def impl_SplitPlan.B7 : List Nat := [0, 1, 0, 0, 12, 31, 63, 127]
theorem impl_SplitPlan.tab7 : rtab .any (opsOf Try.f34 7) = impl_SplitPlan.T7 := by kernel_rfl
theorem impl_SplitPlan.bits7 : waitsOk impl_SplitPlan.T7.2 impl_SplitPlan.B7 = true := by kernel_rfl
theorem impl_SplitPlan.calls (k : Nat) (a0_0 : Int) (a0_1 : Int) (A0_2 : Option Addr) (c0_2 : Nat) (l0_2 : List (S36)) (a1 : Int) (r1 : Int) (r2 : Int) (r3 : List (S36)) (r4 : Bool) (w : World) (hr0_2 : Kd.C k36 w A0_2 l0_2.length l0_2) (hc0_2 : l0_2.length ≤ c0_2) (h : impl_SplitPlan.f k a0_0 a0_1 l0_2 a1 = some (r1, r2, r3, r4)) :
 Calls Try.prog 34 #[.agg #[.int .i64 a0_0, .int .i64 a0_1, .slice A0_2 l0_2.length c0_2], .int .i64 a1] w fun e w' => ∃ v2_ : Value, e = .returned (.tuple #[.agg #[.int .i64 r1, .int .i64 r2, v2_], .bool r4]) ∧ Kd.R k36 36 w' w.heap.size (fun _ => True) v2_ r3 ∧ Below w.heap.size w w' := by
 have B0 := Try.underlying26; have B2 := Try.underlying36; have g0 := ak hr0_2; have x0 := ak hc0_2; clear hr0_2 hc0_2; have HB := ak (Below.refl w.heap.size w); have H : ((impl_isPlan.f k a0_0 a0_1 l0_2).bind fun z0 => (if z0 = true then (impl_SplitPlan.j0 k a1 (decide (a1 < 1)) a0_0 a0_1 l0_2) else (impl_SplitPlan.j0 k a1 true a0_0 a0_1 l0_2))) = some (r1, r2, r3, r4) := h; clear h; have x1 := ak H; clear H; go_enter Try.func34, Try.ntmps34
 go_upto_region 1 with (first | ((with_reducible refine gate_dst (N := 2) rfl ?_); refine boxA 2 #[.int .i64 a0_0, .int .i64 a0_1, .slice A0_2 l0_2.length c0_2] 26 ?_; intro c0 hg w4 hbox hb; have C0 := ak hbox; have y0 := leA (w := w) hg; have Y0 := leA (w := w) hg; replace HB := bS hb; clear hb hbox hg) | ((with_reducible refine gate_dst (N := 4) rfl ?_); refine boxA 4 #[.int .i64 0, .int .i64 0, .slice none 0 0] 26 ?_; intro c1 hg w5 hbox hb; have C1 := ak hbox; have y1 := leA (w := w) hg; have Y1 := leA (w := w) hg; have i0 := neL hg C0; have i1 := neG hg C0; replace C0 := bB C0 hb; replace HB := bS hb; clear hb hbox hg))
 (try simp only [Act.put, sa, sb, sc])
 go_cut [15] (fun d0 wc => ∃ (kq : Nat) (W0 : Bool), d0 = .bool W0 ∧ Aside0 (impl_SplitPlan.j0 kq a1 W0 a0_0 a0_1 l0_2 = some (r1, r2, r3, r4)) ∧ Aside0 (kq ≤ k) ∧ Aside0 (wc.heap[c0]? = some (.cells #[.int .i64 a0_0, .int .i64 a0_1, (.slice A0_2 l0_2.length c0_2)] 26 (0, 0))) ∧ Aside0 (wc.heap[c1]? = some (.cells #[.int .i64 0, .int .i64 0, (.slice none 0 0)] 26 (0, 0))) ∧ Aside0 (Below w.heap.size w wc))
 case first =>
  have H := x1.out; clear x1; replace H := Option.bind_eq_some_iff.mp H; obtain ⟨z0, Z0, H⟩ := H; (try dsimp only at H); have A6 := ak Z0; clear Z0
  by_cases c7 : z0 = true
  · subst c7; have H1 : (impl_SplitPlan.j0 k a1 (decide (a1 < 1)) a0_0 a0_1 l0_2) = some (r1, r2, r3, r4) := by rw [if_pos rfl] at H; exact H
    clear H; have H := H1; clear H1; have H' := ak H; clear H; have I0 := i0.out; have j3 := i1.out; obtain ⟨_, _, _, _, _, _⟩ := cel3 C0; go_wp2_with (first | ((with_reducible refine gate_callee (f := 72) rfl ?_); refine goB 10 Try.func72 #[.agg #[.int .i64 a0_0, .int .i64 a0_1, .slice A0_2 l0_2.length c0_2]] rfl ?_; (with_reducible refine (impl_isPlan.calls k a0_0 a0_1 _ _ l0_2 true _ ?side1 ?side2 A6.out).mono ?_); (case side1 => exact cA (Kd.C_below g0.out HB.out)); (case side2 => exact x0.out); rintro e k0 ⟨rfl, hb⟩; refine ⟨_, rfl, ?_⟩; replace C0 := bB C0 hb; replace C1 := bB C1 hb; replace HB := bS hb; (try clear hb)))
    go_meet
    case rel => exact ⟨_, (decide (a1 < 1)), eqA, H', ⟨xq11⟩, ⟨blkA⟩, ⟨blkA⟩, ⟨belA⟩⟩
  replace c7 := Bool.eq_false_iff.mpr c7; subst c7; have H1 : (impl_SplitPlan.j0 k a1 true a0_0 a0_1 l0_2) = some (r1, r2, r3, r4) := by rw [if_neg (show ¬ (false = true) by decide)] at H; exact H
  clear H; have H := H1; clear H1; have H' := ak H; clear H; have I1 := i0.out; have j5 := i1.out; obtain ⟨_, _, _, _, _, _⟩ := cel3 C0; go_wp2_with (first | ((with_reducible refine gate_callee (f := 72) rfl ?_); refine goB 10 Try.func72 #[.agg #[.int .i64 a0_0, .int .i64 a0_1, .slice A0_2 l0_2.length c0_2]] rfl ?_; (with_reducible refine (impl_isPlan.calls k a0_0 a0_1 _ _ l0_2 false _ ?side1 ?side2 A6.out).mono ?_); (case side1 => exact cA (Kd.C_below g0.out HB.out)); (case side2 => exact x0.out); rintro e k1 ⟨rfl, hb⟩; refine ⟨_, rfl, ?_⟩; replace C0 := bB C0 hb; replace C1 := bB C1 hb; replace HB := bS hb; (try clear hb)))
  go_meet
  case rel => exact ⟨_, (true), eqA, H', ⟨xq11⟩, ⟨blkA⟩, ⟨blkA⟩, ⟨belA⟩⟩
 case rest =>
  clear x1; obtain ⟨kq, W0, rfl, HA, t0, C0, C1, HB⟩ := hcut
  cases kq with
  | zero => exact absurd HA.out (by simp [impl_SplitPlan.j0])
  | succ g1 =>
   have H := HA.out; clear HA; simp only [impl_SplitPlan.j0] at H
   by_cases N0 : W0 = true
   · subst N0; have H1 : (some (0, 0, ([] : List (S36)), false)) = some (r1, r2, r3, r4) := by rw [if_pos rfl] at H; exact H
     clear H; have H := H1; clear H1; simp only [Option.some.injEq, Prod.mk.injEq] at H; obtain ⟨rfl, rfl, rfl, rfl⟩ := H; have I2 := i1.out; have j6 := i0.out; obtain ⟨_, _, _, _, _, _⟩ := cel3 C1; go_wp2
     refine bodyPost_ret (results_ct rfl _ _ c1 26 #[.int .i64 0, .int .i64 0, .slice none 0 0] (0, 0) _ rfl xq21 Try.underlying26 rfl (by kernel_rfl)) rfl ?_
     exact ⟨_, xq1, xq13, belA⟩
   replace N0 := Bool.eq_false_iff.mpr N0; subst N0; have H1 : (impl_SplitPlan.l0 g1 a1 l0_2 (l0_2.length : Int) 0 a0_0 a0_1 ([] : List (S36))) = some (r1, r2, r3, r4) := by rw [if_neg (show ¬ (false = true) by decide)] at H; exact H
   clear H; have H := H1; clear H1; have H' := ak H; clear H; have I3 := i0.out; have j7 := i1.out; obtain ⟨_, _, _, _, _, _⟩ := cel3 C0; go_wp2_with (first | ((with_reducible refine gate_dst (N := 6) rfl ?_); refine boxA 6 #[.int .i64 0, .int .i64 0, .slice none 0 0] 26 ?_; intro ca hg k3 hbox hb; have C2 := ak hbox; have y2 := leA (w := w) hg; have Y2 := leA (w := w) hg; have i2 := neL hg C0; have i3 := neG hg C0; have i4 := neL hg C1; have i5 := neG hg C1; replace C0 := bB C0 hb; replace C1 := bB C1 hb; replace HB := bS hb; clear hb hbox hg; have I4 := i3.out; have j8 := i2.out; have I5 := i5.out; have j9 := i4.out; obtain ⟨_, _, _, _, _, _⟩ := cel3 C2; obtain ⟨_, _, _, _, _, _⟩ := cel3 C0))
   go_loopg [25] g1 (fun kq d1 w' => ∃ (W1 : Int) (W2 : List (S36)) (u449002 : Value), d1 = .int .i64 W1 ∧ Aside0 (impl_SplitPlan.l0 kq a1 l0_2 (l0_2.length : Int) W1 a0_0 a0_1 W2 = some (r1, r2, r3, r4)) ∧ Aside0 (kq ≤ g1) ∧ Aside0 (Kd.R k36 36 w' w.heap.size (fun _ => True) u449002 W2) ∧ Aside0 (w'.heap[c0]? = some (.cells #[.int .i64 a0_0, .int .i64 a0_1, (.slice A0_2 l0_2.length c0_2)] 26 (0, 0))) ∧ Aside0 (w'.heap[c1]? = some (.cells #[.int .i64 0, .int .i64 0, (.slice none 0 0)] 26 (0, 0))) ∧ Aside0 (w'.heap[ca]? = some (.cells #[.int .i64 a0_0, .int .i64 a0_1, u449002] 26 (0, 0))) ∧ Aside0 (Below w.heap.size w w'))
   case atStart => exact ⟨(0), (([] : List (S36))), (.slice none 0 0), eqA, H', ⟨Nat.le_refl _⟩, ⟨xq13⟩, ⟨xq27⟩, ⟨xq47⟩, ⟨xq88⟩, ⟨belA⟩⟩
   case round =>
    clear H'; obtain ⟨W1, W2, u449002, rfl, HA, n0, f3, C0, C1, C2, HB⟩ := hrel
    cases gk with
    | zero => exact absurd HA.out (by simp [impl_SplitPlan.l0])
    | succ k2 =>
     have H := HA.out; clear HA; simp only [impl_SplitPlan.l0] at H
     by_cases N1 : W1 < (l0_2.length : Int); rotate_left
     · rw [if_neg N1] at H; have N2 := decide_eq_false N1; clear N1
       by_cases N3 : (W2.length : Int) > 600
       · rw [if_pos N3] at H; have N4 : decide (600 < (W2.length : Int)) = true := decide_eq_true N3; have N5 : decide (600 < W2.length) = true := decide_eq_true (by omega); clear N3; simp only [Option.some.injEq, Prod.mk.injEq] at H; obtain ⟨rfl, rfl, rfl, rfl⟩ := H; have I6 := i3.out; have ja := i2.out; have I7 := i5.out; have jb := i4.out; obtain ⟨_, _, _, _, _, _⟩ := cel3 C2; obtain ⟨F0, l6, L0⟩ := Kd.R_slice f3.out; subst L0; have I8 := i1.out; have jc := i0.out; obtain ⟨_, _, _, _, _, _⟩ := cel3 C1; go_wp2
         refine bodyPost_ret (results_ct rfl _ _ c1 26 #[.int .i64 0, .int .i64 0, .slice none 0 0] (0, 0) _ rfl xq21 Try.underlying26 rfl (by kernel_rfl)) rfl ?_
         exact ⟨_, xq1, xq13, belA⟩
       rw [if_neg N3] at H; have N4 : decide (600 < (W2.length : Int)) = false := decide_eq_false N3; have N5 : decide (600 < W2.length) = false := decide_eq_false (by omega); clear N3; simp only [Option.some.injEq, Prod.mk.injEq] at H; obtain ⟨rfl, rfl, rfl, rfl⟩ := H; have I9 := i3.out; have jd := i2.out; have Ia := i5.out; have je := i4.out; obtain ⟨_, _, _, _, _, _⟩ := cel3 C2; obtain ⟨F1, l7, L1⟩ := Kd.R_slice f3.out; subst L1; have Ib := i1.out; have jf := i0.out; obtain ⟨_, _, _, _, _, _⟩ := cel3 C1; go_wp2
       refine bodyPost_ret (results_ct rfl _ _ c1 26 #[.int .i64 a0_0, .int .i64 a0_1, .slice F1 W2.length l7] (0, 0) _ rfl xq48 Try.underlying26 rfl (by kernel_rfl)) rfl ?_
       exact ⟨_, xq1, by (with_reducible repeat (first | apply Kd.R_alloc | apply Kd.R_drewN | apply Kd.R_drew)); exact Kd.R_mono (Kd.R_far (p := ⟨c1, 2, none⟩) (Kd.R_far (p := ⟨c1, 1, none⟩) (Kd.R_far (p := ⟨c1, 0, none⟩) (Kd.R_types f3.out C1.out (by decide)) (fun _ hk => hk.2) (.int .i64 a0_0)) (fun _ hk => hk.2) (.int .i64 a0_1)) (fun _ hk => hk.2) (.slice F1 W2.length l7)) (fun _ hk => trivial), belA⟩
     rw [if_pos N1] at H; have N2 := decide_eq_true N1; clear N1
     by_cases N6 : 0 ≤ W1; rotate_left
     · rw [if_neg N6] at H; exact absurd H (by simp)
     rw [if_pos N6] at H; have N7 := decide_eq_true N6; clear N6
     by_cases N8 : W1 < (l0_2.length : Int); rotate_left
     · rw [if_neg N8] at H; exact absurd H (by simp)
     rw [if_pos N8] at H; have N9 := decide_eq_true N8; clear N8; replace H := Option.bind_eq_some_iff.mp H; obtain ⟨z1, Z1, H⟩ := H; (try dsimp only at H); have Z2 := ak Z1; clear Z1
     by_cases Na : W2.length + z1.length < 5864062014805; rotate_left
     · rw [if_neg Na] at H; exact absurd H (by simp)
     rw [if_pos Na] at H; have cb := ak Na; clear Na; obtain ⟨K0, hyq⟩ : ∃ y_ : List (S36), y_ = (W2 ++ z1) := ⟨_, rfl⟩; replace H : (impl_SplitPlan.l0 k2 a1 l0_2 (l0_2.length : Int) (wrap64 (W1 + 1)) a0_0 a0_1 K0) = some (r1, r2, r3, r4) := by first | (rw [hyq]; with_reducible exact H) | (have e0 := (Option.bind_some _ _).symm.trans H; rw [hyq]; with_reducible exact e0) | (have e0 := (Option.bind_some _ _).symm.trans H; with_reducible exact e0) | with_reducible exact H | (rw [hyq]; exact H) | exact H
     have E0 := ak hyq; clear hyq; have H' := ak H; clear H; have v0 : 0 ≤ (W1 : Int) := odA; have V0 : W1 < (l0_2.length : Int) := odA; obtain ⟨a5, A0, o0, o1, o2⟩ := at_T36 g0.out W1 v0 V0
     cases A0
     try replace o0 := cB HB o0
     try replace o1 := cB HB o1
     try replace o2 := cB HB o2
     replace v0 := eq_true v0; replace V0 := eq_true V0; try go_wp2_with (first | ((with_reducible refine gate_dst (N := 8) rfl ?_); refine boxA 8 #[.int .i64 0, .int .i64 0, .int .i64 0] 36 ?_; intro cc hg k4 hbox hb; have C3 := ak hbox; have y3 := leA (w := w) hg; have Y3 := leA (w := w) hg; have i6 := neL hg C0; have i7 := neG hg C0; have i8 := neL hg C1; have i9 := neG hg C1; have ia := neL hg C2; have ib := neG hg C2; replace f3 := ak (Kd.R_below (Kd.R_elderB (rF f3) cc (Nat.le_of_eq hg.symm)) hb); replace C0 := bB C0 hb; replace C1 := bB C1 hb; replace C2 := bB C2 hb; replace HB := bS hb; clear hb hbox hg; have Ic := i7.out; have jg := i6.out; have Id := i9.out; have jh := i8.out; have Ie := ib.out; have ji := ia.out; obtain ⟨_, _, _, _, _, _⟩ := cel3 C3))
     generalize hw_ : (((k4.setCell ⟨cc, 0, none⟩ (.int .i64 ((rd_T36 l0_2 W1).f0))).setCell ⟨cc, 1, none⟩ (.int .i64 ((rd_T36 l0_2 W1).f1))).setCell ⟨cc, 2, none⟩ (.int .i64 ((rd_T36 l0_2 W1).f2))) = k5; have x2 : Aside0 (Kd.R k36 36 k5 w.heap.size (fun k_ => k_ ≠ cc) u449002 W2) := ⟨by rw [← hw_]; exact (Kd.R_mono (Kd.R_far (p := ⟨cc, 2, none⟩) (Kd.R_far (p := ⟨cc, 1, none⟩) (Kd.R_far (p := ⟨cc, 0, none⟩) (Kd.R_mono f3.out (fun k_ hk => (⟨hk, hk.2⟩ : _ ∧ k_ ≠ cc))) (fun _ hk => hk.2) (.int .i64 ((rd_T36 l0_2 W1).f0))) (fun _ hk => hk.2) (.int .i64 ((rd_T36 l0_2 W1).f1))) (fun _ hk => hk.2) (.int .i64 ((rd_T36 l0_2 W1).f2))) (fun _ hk => hk.1.2))⟩; have x3 : Aside0 (k5.heap[c0]? = some (.cells #[.int .i64 a0_0, .int .i64 a0_1, .slice (some a5) l0_2.length c0_2] 26 (0, 0))) := ⟨xq43⟩; have x4 : Aside0 (k5.heap[c1]? = some (.cells #[.int .i64 0, .int .i64 0, .slice none 0 0] 26 (0, 0))) := ⟨xq44⟩; have x5 : Aside0 (k5.heap[ca]? = some (.cells #[.int .i64 a0_0, .int .i64 a0_1, u449002] 26 (0, 0))) := ⟨xq45⟩; have x6 : Aside0 (k5.heap[cc]? = some (.cells #[.int .i64 ((rd_T36 l0_2 W1).f0), .int .i64 ((rd_T36 l0_2 W1).f1), .int .i64 ((rd_T36 l0_2 W1).f2)] 36 (0, 0))) := ⟨by rw [← hw_]; refine blk_put (cs := #[.int .i64 ((rd_T36 l0_2 W1).f0), .int .i64 ((rd_T36 l0_2 W1).f1), .int .i64 0]) ?_ 2 _ rfl; refine blk_put (cs := #[.int .i64 ((rd_T36 l0_2 W1).f0), .int .i64 0, .int .i64 0]) ?_ 1 _ rfl; refine blk_put (cs := #[.int .i64 0, .int .i64 0, .int .i64 0]) ?_ 0 _ rfl; exact C3.out⟩; have x7 : Aside0 (Below w.heap.size w k5) := ⟨by rw [← hw_]; exact belA⟩; (try clear f3); (try clear C0); (try clear C1); (try clear C2); (try clear C3); (try clear HB); clear hw_; have f3 := x2; have C0 := x3; have C1 := x4; have C2 := x5; have C3 := x6; have HB := x7; clear x2 x3 x4 x5 x6 x7; replace f3 := ak (Kd.R_drew f3.out); replace C0 := ak (blk_drew C0.out); replace C1 := ak (blk_drew C1.out); replace C2 := ak (blk_drew C2.out); replace C3 := ak (blk_drew C3.out); replace HB := ak (below_drew1 HB.out); refine start_ (n := 8) (S := fun w' => w'.cell? ⟨ca, 0, none⟩ = some (.int .i64 a0_0) ∧ w'.cell? ⟨ca, 1, none⟩ = some (.int .i64 a0_1) ∧ w'.cell? ⟨ca, 2, none⟩ = some (u449002) ∧ w'.cell? ⟨cc, 0, none⟩ = some (.int .i64 ((rd_T36 l0_2 W1).f0)) ∧ w'.cell? ⟨cc, 1, none⟩ = some (.int .i64 ((rd_T36 l0_2 W1).f1)) ∧ w'.cell? ⟨cc, 2, none⟩ = some (.int .i64 ((rd_T36 l0_2 W1).f2))) (ds := [7]) _ (by kernel_rfl) rfl rfl ⟨bc C2 0, bc C2 1, bc C2 2, bc C3 0, bc C3 1, bc C3 2⟩ (fun hHeld => ?_); refine with_tabW impl_SplitPlan.tab7 impl_SplitPlan.bits7 (fun HT_ HW_ => ?_)
     generalize k5.drew = k6 at f3 C0 C1 C2 C3 HB hHeld ⊢
     refine pR 0 29 (ba 8 1) ?_; refine pR 3 32 (ba 8 9) ?_; refine tR6 1 30 (ba 8 11) ?_; refine tR6 2 31 (ba 8 15) ?_
     refine one_ (i := 4) (N := some 33) (ba 8 31) rfl rfl (one_of HT_.out (by kernel_rfl)) (by decide) (fun K hK => ?_)
     refine goes_ Try.func85 (by kernel_rfl) rfl #[.agg #[.int .i64 ((rd_T36 l0_2 W1).f0), .int .i64 ((rd_T36 l0_2 W1).f1), .int .i64 ((rd_T36 l0_2 W1).f2)], .int .i64 a1] (by rfl) rfl rfl xq12 ?_
     with_reducible refine (impl_ranges.calls k2 ((rd_T36 l0_2 W1).f0) ((rd_T36 l0_2 W1).f1) ((rd_T36 l0_2 W1).f2) a1 z1 _ Z2.out).mono ?_
     rintro e k7 ⟨d2, rfl, D0, hb⟩
     refine ⟨_, rfl, ?_⟩
     have f4 := rL (Kd.R_newB (Kd.R_new' D0 (Kd.R_lt (rF f3))) (g := cc) (o := .cells #[.int .i64 ((rd_T36 l0_2 W1).f0), .int .i64 ((rd_T36 l0_2 W1).f1), .int .i64 ((rd_T36 l0_2 W1).f2)] 36 (0, 0)) blkA); replace f3 := ak (Kd.R_elder' (rF f3) (Kd.R_base D0) hb); replace C0 := bB C0 hb; replace C1 := bB C1 hb; replace C2 := bB C2 hb; replace C3 := bB C3 hb; replace HB := bS hb; (try clear hb D0); obtain ⟨F2, l8, L2⟩ := Kd.R_slice f4.out; (first | subst L2 | (injection L2 with C4 C5 C6; have C7 := C4.symm; have C8 := C6.symm; clear C4 C5 C6; subst C7; subst C8))
     refine hK.out _ _ ⟨bc C2 0, bc C2 1, bc C2 2, bc C3 0, bc C3 1, bc C3 2⟩ (fun hHeld => ?_)
     clear hK K; refine nR 33 ?_
     refine one_ (i := 5) (N := some 34) (ba 8 63) rfl rfl (one_of HT_.out (by kernel_rfl)) (by decide) (fun K hK => ?_)
     refine Kd.R_append_rows_step k36 (w0 := w) w.heap.size (by rfl) (.tmp 30) (.tmp 33) 24 36 (.agg #[(.int .i64 0), (.int .i64 0), (.int .i64 0)]) 24 rfl Try.underlying24 info36 rfl (by decide) (by omega) u449002 W2 z1 _ _ _ (fun k_ => some k_ ≠ (.slice F2 z1.length l8 : Value).ownBlock ∧ k_ ≠ cc) (fun _ => False) rfl rfl ?aO ?aR (fun _ _ h => h) (fun _ h => h.elim) ?aF ?aB ?aS ?aL ?_
     (case aR => repeat (first | exact (Kd.R_reads' f4.out).2.2 | (with_reducible refine Kd.C_alloc ?_ _) | (with_reducible refine Kd.C_drewN ?_ _) | (with_reducible refine Kd.C_drew ?_)))
     (case aB => exact belA)
     (case aF => exact (fun k_ hk => ⟨Kd.fresh' (Kd.R_lt (rF f4)) k_ hk, Kd.freshB (g := cc) (o := .cells #[.int .i64 ((rd_T36 l0_2 W1).f0), .int .i64 ((rd_T36 l0_2 W1).f1), .int .i64 ((rd_T36 l0_2 W1).f2)] 36 (0, 0)) blkA k_ hk⟩))
     (case aO => exact (by (with_reducible repeat (first | apply Kd.R_alloc | apply Kd.R_drewN | apply Kd.R_drew)); first | exact Kd.R_mono f3.out (fun _ hk => ⟨hk.2, hk.1⟩) | exact Kd.R_mono f3.out (fun _ _ => trivial)))
     (case aS => exact (below_size belA))
     (case aL => have := cb.out; omega)
     intro d3 k8 ho hb hg hat; rw [← E0.out] at ho; have x2 := ak (blk_grown (g := c0) (o := .cells #[.int .i64 a0_0, .int .i64 a0_1, .slice (some a5) l0_2.length c0_2] 26 (0, 0)) blkA hg (Kd.R_ne f3.out C0.out (by decide))); have x3 := ak (blk_grown (g := c1) (o := .cells #[.int .i64 0, .int .i64 0, .slice none 0 0] 26 (0, 0)) blkA hg (Kd.R_ne f3.out C1.out (by decide))); have x4 := ak (blk_grown (g := ca) (o := .cells #[.int .i64 a0_0, .int .i64 a0_1, u449002] 26 (0, 0)) blkA hg (Kd.R_ne f3.out C2.out (by decide))); have x5 := ak (blk_grown (g := cc) (o := .cells #[.int .i64 ((rd_T36 l0_2 W1).f0), .int .i64 ((rd_T36 l0_2 W1).f1), .int .i64 ((rd_T36 l0_2 W1).f2)] 36 (0, 0)) blkA hg (Kd.R_away f3.out (fun _ hk => hk.1))); have x6 := ak (Kd.R_after (ok := (fun k_ => k_ ≠ cc)) (by (with_reducible repeat (first | apply Kd.R_alloc | apply Kd.R_drewN | apply Kd.R_drew)); first | exact Kd.R_mono f4.out (fun _ hk => ⟨hk.2, hk.1.2⟩) | exact Kd.R_mono f4.out (fun _ _ => trivial)) hg hat); have x7 := ak hb; have x8 := ak ho; clear C0; clear C1; clear C2; clear C3; clear f4; clear HB; clear f3; have C0 := x2; have C1 := x3; have C2 := x4; have C3 := x5; have f4 := x6; have HB := x7; have f5 := x8; clear x2 x3 x4 x5 x6 x7 x8; clear ho hb hg hat; obtain ⟨F3, l9, L3⟩ := Kd.R_slice f5.out; (first | subst L3 | (injection L3 with C4 C5 C6; have C7 := C4.symm; have C8 := C6.symm; clear C4 C5 C6; subst C7; subst C8))
     refine hK.out _ _ ⟨bc C2 0, bc C2 1, bc C2 2, bc C3 0, bc C3 1, bc C3 2⟩ (fun hHeld => ?_)
     clear hK K; refine nR 34 ?_; refine pR 6 35 (ba 8 127) ?_
     refine last_ (i := 7) (N := none) (ba 8 255) rfl rfl (one_of HT_.out (by kernel_rfl)) (by decide) (fun K hK => ?_)
     have y4 : k8.cell? ⟨ca, 2, none⟩ = some (u449002) := bc C2 2; have Y4 := blk_frozen C2.out 2; have v1 := i2.out; have v2 := i4.out; have v3 := ib.out; have V1 := i3.out; have V2 := i5.out; have V3 := ia.out; refine skip_ (w1 := ?_) (by rfl) rfl ?_ ?_
     rotate_left
     · go_simp
       rfl
     refine hK.out _ _ ?_
     clear hK K; refine done_ (done_of HT_.out (by kernel_rfl)) ?_
     try go_wp2
     go_roundg k2
     case measure => have := t0.out; have := n0.out; omega
     case rel => exact ⟨(wrap64 (W1 + 1)), (K0), (.slice F3 K0.length l9), eqA, H', ⟨xq26⟩, ⟨rE (Kd.R_mono (Kd.R_far (p := ⟨ca, 2, none⟩) (Kd.R_types f5.out C2.out (by decide)) (fun _ hk => hk.2) (.slice F3 K0.length l9)) (fun _ hk => trivial))⟩, ⟨xq35⟩, ⟨xq46⟩, ⟨by (with_reducible repeat (first | refine blk_drewN ?_ _ | refine blk_drew ?_ | refine blk_alloc ?_ _)); refine blk_put (cs := #[.int .i64 a0_0, .int .i64 a0_1, u449002]) ?_ 2 _ rfl; (with_reducible repeat (first | refine blk_drewN ?_ _ | refine blk_drew ?_ | refine blk_alloc ?_ _)); exact C2.out⟩, ⟨belA⟩⟩

def spec_l09Steps.l0 : Nat → List (S36) → List (S36) → Int → Option ((List (S36)))
 | 0, _, _, _ => none
 | k + 1, x0, x3, x4 => if x4 < (x0.length : Int) then (if 0 ≤ x4 then (if x3.length < 5864062014805 then (spec_l09Steps.l0 k x0 (x3 ++ [(⟨(rd_T36 x0 x4).f0, (rd_T36 x0 x4).f1, (rd_T36 x0 x4).f2⟩ : S36)]) (wrap64 (x4 + 1))) else (none)) else (none)) else (some x3)
def spec_l09Steps.f (k : Nat) (l0 : List (S36)) : Option ((List (S36))) := spec_l09Steps.l0 k l0 (([] : List (S36))) 0
theorem spec_l09Steps.mono_l : ∀ k, (∀ y0 y1 y2, LeO (spec_l09Steps.l0 k y0 y1 y2) (spec_l09Steps.l0 (k + 1) y0 y1 y2))
 | 0 => fun _ _ _ r h => by simp [spec_l09Steps.l0] at h
 | k + 1 => by
  have ih0 := spec_l09Steps.mono_l k
  · intro y0 y1 y2; unfold spec_l09Steps.l0; exact xq33
theorem spec_l09Steps.mono : ∀ a0 k, LeO (spec_l09Steps.f k a0) (spec_l09Steps.f (k + 1) a0) := by
 intro a0 k; have b0 := spec_l09Steps.mono_l k
 unfold spec_l09Steps.f
 exact xq34
theorem spec_l09Steps.calls (k : Nat) (A0 : Option Addr) (c0 : Nat) (l0 : List (S36)) (r : List (S36)) (w : World) (hr0 : Kd.C k36 w A0 l0.length l0) (hc0 : l0.length ≤ c0) (h : spec_l09Steps.f k l0 = some r) :
 Calls Try.prog 89 #[.slice A0 l0.length c0] w fun e w' => ∃ v0_ : Value, e = .returned (v0_) ∧ Kd.R k36 36 w' w.heap.size (fun _ => True) v0_ r ∧ Below w.heap.size w w' := by
 have B0 := Try.underlying36; have g0 := ak hr0; have x0 := ak hc0; clear hr0 hc0; have HB := ak (Below.refl w.heap.size w); have H : (spec_l09Steps.l0 k l0 (([] : List (S36))) 0) = some r := h; clear h; obtain ⟨K0, hyq⟩ : ∃ y_ : List (S36), y_ = (([] : List (S36))) := ⟨_, rfl⟩; replace H : (spec_l09Steps.l0 k l0 K0 0) = some r := by first | (rw [hyq]; with_reducible exact H) | (have e0 := (Option.bind_some _ _).symm.trans H; rw [hyq]; with_reducible exact e0) | (have e0 := (Option.bind_some _ _).symm.trans H; with_reducible exact e0) | with_reducible exact H | (rw [hyq]; exact H) | exact H
 have E0 := ak hyq; clear hyq; have H' := ak H; clear H; go_enter Try.func89, Try.ntmps89
 go_wp2_with (first | ((with_reducible refine gate_dst (N := 5) rfl ?_); refine Kd.R_lit k36 _ 36 ?hg (N := 5) ?hd (xs := ([] : List (S36))) (inner := []) (ok := fun _ => True) (okp := fun _ => True) ?hr ?hp (fun _ hk => hk) trivial (Below.refl _ _) (Nat.le_refl _) (by simp) ?_; (case hd => rfl); (case hg => rfl); (case hr => exact xq4); (case hp => exact (Reps.none _ _)); intro d0 w2 D0 hb hg_ hnew_; clear hg_ hnew_; (first | rw [← E0.out] at D0 | (simp only [Int.reduceToNat] at D0; rw [← E0.out] at D0)); have f3 := rL D0; replace HB := bS hb; clear hb D0))
 go_loopg [3, 4] k (fun kq v3 v4 w' => ∃ (W0 : List (S36)) (W1 : Int), v4 = .int .i64 W1 ∧ Aside0 (spec_l09Steps.l0 kq l0 W0 W1 = some r) ∧ Aside0 (kq ≤ k) ∧ Aside0 (Kd.R k36 36 w' w.heap.size (fun _ => True) v3 W0) ∧ Aside0 (Below w.heap.size w w'))
 case atStart => exact ⟨(K0), (0), eqA, H', ⟨Nat.le_refl _⟩, ⟨rA f3⟩, ⟨belA⟩⟩
 case round =>
  clear H'; obtain ⟨W0, W1, rfl, HA, n0, f4, HB⟩ := hrel
  cases gk with
  | zero => exact absurd HA.out (by simp [spec_l09Steps.l0])
  | succ k1 =>
   have H := HA.out; clear HA; simp only [spec_l09Steps.l0] at H
   by_cases c4 : W1 < (l0.length : Int); rotate_left
   · rw [if_neg c4] at H; have N0 := decide_eq_false c4; clear c4; obtain rfl := Option.some.inj H; go_wp2
     go_ret
     exact ⟨_, xq1, by (with_reducible repeat (first | apply Kd.R_alloc | apply Kd.R_drewN | apply Kd.R_drew)); exact f4.out, belA⟩
   rw [if_pos c4] at H; have N0 := decide_eq_true c4; clear c4
   by_cases c5 : 0 ≤ W1; rotate_left
   · rw [if_neg c5] at H; exact absurd H (by simp)
   rw [if_pos c5] at H; have N1 := decide_eq_true c5; clear c5
   by_cases c6 : W0.length < 5864062014805; rotate_left
   · rw [if_neg c6] at H; exact absurd H (by simp)
   rw [if_pos c6] at H; have c1 := ak c6; clear c6; obtain ⟨K1, hyq⟩ : ∃ y_ : List (S36), y_ = (W0 ++ [(⟨(rd_T36 l0 W1).f0, (rd_T36 l0 W1).f1, (rd_T36 l0 W1).f2⟩ : S36)]) := ⟨_, rfl⟩; replace H : (spec_l09Steps.l0 k1 l0 K1 (wrap64 (W1 + 1))) = some r := by first | (rw [hyq]; with_reducible exact H) | (have e0 := (Option.bind_some _ _).symm.trans H; rw [hyq]; with_reducible exact e0) | (have e0 := (Option.bind_some _ _).symm.trans H; with_reducible exact e0) | with_reducible exact H | (rw [hyq]; exact H) | exact H
   have E1 := ak hyq; clear hyq; have H' := ak H; clear H; have v0 : 0 ≤ (W1 : Int) := odA; have V0 : W1 < (l0.length : Int) := odA; obtain ⟨a5, A1, o0, o1, o2⟩ := at_T36 g0.out W1 v0 V0
   cases A1
   try replace o0 := cB HB o0
   try replace o1 := cB HB o1
   try replace o2 := cB HB o2
   replace v0 := eq_true v0; replace V0 := eq_true V0; go_wp2_with (first | ((with_reducible refine gate_builtin (b := .append) (xs := #[.tmp 12, .tmp 17]) rfl ?_); at_builtin; refine Kd.R_append k36 (w0 := w) w.heap.size rfl (.tmp 12) (.tmp 17) 24 36 (.agg #[(.int .i64 0), (.int .i64 0), (.int .i64 0)]) 24 rfl Try.underlying24 info36 rfl (by decide) (by omega) u3 W0 (⟨(rd_T36 l0 W1).f0, (rd_T36 l0 W1).f1, (rd_T36 l0 W1).f2⟩ : S36) [.int .i64 ((rd_T36 l0 W1).f0), .int .i64 ((rd_T36 l0 W1).f1), .int .i64 ((rd_T36 l0 W1).f2)] (fun _ => True) (fun _ => False) rfl rfl ?aP (fun _ hk => hk.elim) ?aF ?aO ?aB ?aS ?aL ?_; (case aP => exact k36_mkM _ _ _ (⟨(rd_T36 l0 W1).f0, (rd_T36 l0 W1).f1, (rd_T36 l0 W1).f2⟩ : S36)); (case aB => exact belA); (case aF => exact (fun _ _ => trivial)); (case aO => exact (rF f4)); (case aS => exact (below_size belA)); (case aL => exact xq36); intro d1 w7 ho hb hg hat; rw [← E1.out] at ho; have f5 := ak ho; replace HB := ak hb; clear f4; clear ho hb hg hat))
   go_roundg k1
   case measure => have := n0.out; omega
   case rel => exact ⟨(K1), (wrap64 (W1 + 1)), eqA, H', ⟨xq16⟩, ⟨rA f5⟩, ⟨belA⟩⟩

end Go.Proofs.Ytbojabmpcfclhaa.PFnPlanTurned

-- Written by a program of this session (the print of the kit with contracts of this session's own added)
import Derived.Test.YtbojabmpcfclhaaZFPTx8
set_option maxHeartbeats 8000000
set_option maxRecDepth 100000
namespace Go.Proofs.Ytbojabmpcfclhaa.PFnPlanTurned
open Go.RowKit Go.Proofs.YtbojabmpcfclhaaW.PrintWords Go.Proofs.YtbojabmpcfclhaaW.PrintLast Go.Proofs.YtbojabmpcfclhaaW.PrintMore Go.Proofs.YtbojabmpcfclhaaW.PrintPack Go.Proofs.YtbojabmpcfclhaaW.PrintPack
attribute [local go_sem] max2_int min2_int max_two min_two max_three min_three max_four min_four   -- for this text's walks alone
set_option linter.unusedVariables false
set_option linter.unusedSimpArgs false

def spec_RunPlan.f (k : Nat) (a0_0 : Int) (a0_1 : Int) (l0_2 : List (S36)) (l1 : List Int) : Option (List Int × Bool) := (spec_PlanOk.f k a0_0 a0_1 l0_2).bind fun t320 => (if t320 = true then ((spec_VectorOk.f k a0_0 l1).bind fun t321 => (if t321 = true then (if 0 ≤ (IntKind.u64.wrap (a0_1)) then (if (l1.length : Int) = (shl .i64 1 (IntKind.u64.wrap (a0_1))) then ((spec_Forward.f k a0_0 l1).bind fun t322 => (some (t322, true))) else (some (([] : List Int), false))) else (none)) else (some (([] : List Int), false)))) else (some (([] : List Int), false)))
theorem spec_RunPlan.mono : ∀ a0 a1 a2 a3 k, LeO (spec_RunPlan.f k a0 a1 a2 a3) (spec_RunPlan.f (k + 1) a0 a1 a2 a3) := by
 intro a0 a1 a2 a3 k
 unfold spec_RunPlan.f
 exact (by repeat' (with_reducible first | exact spec_Forward.mono _ _ _ | exact spec_PlanOk.mono _ _ _ _ | exact spec_VectorOk.mono _ _ _ | exact LeO.refl _ | exact LeO.none _ | refine LeO.ite ?_ ?_ | refine LeO.bind ?_ (fun _ => ?_)))
theorem spec_RunPlan.calls (k : Nat) (a0_0 : Int) (a0_1 : Int) (A0_2 : Option Addr) (c0_2 : Nat) (l0_2 : List (S36)) (A1 : Option Addr) (c1 : Nat) (l1 : List Int) (r1 : List Int) (r2 : Bool) (w : World) (hr0_2 : Kd.C k36 w A0_2 l0_2.length l0_2) (hc0_2 : l0_2.length ≤ c0_2) (hr1 : Kd.C (Kd.int .i64) w A1 l1.length l1) (hc1 : l1.length ≤ c1) (h : spec_RunPlan.f k a0_0 a0_1 l0_2 l1 = some (r1, r2)) :
 Calls Try.prog 11 #[.agg #[.int .i64 a0_0, .int .i64 a0_1, .slice A0_2 l0_2.length c0_2], .slice A1 l1.length c1] w fun e w' => ∃ v0_ : Value, e = .returned (.tuple #[v0_, .bool r2]) ∧ Kd.R (Kd.int .i64) 3 w' w.heap.size (fun _ => True) v0_ r1 ∧ Below w.heap.size w w' := by
 have B0 := Try.underlying26; have g0 := ak hr0_2; have x0 := ak hc0_2; clear hr0_2 hc0_2; have g1 := ak hr1; have x1 := ak hc1; clear hr1 hc1; have HB := ak (Below.refl w.heap.size w); have H : ((spec_PlanOk.f k a0_0 a0_1 l0_2).bind fun z0 => (if z0 = true then ((spec_VectorOk.f k a0_0 l1).bind fun z1 => (if z1 = true then (if 0 ≤ (IntKind.u64.wrap (a0_1)) then (if (l1.length : Int) = (shl .i64 1 (IntKind.u64.wrap (a0_1))) then ((spec_Forward.f k a0_0 l1).bind fun z2 => (some (z2, true))) else (some (([] : List Int), false))) else (none)) else (some (([] : List Int), false)))) else (some (([] : List Int), false)))) = some (r1, r2) := h; clear h; replace H := Option.bind_eq_some_iff.mp H; obtain ⟨z0, Z0, H⟩ := H; (try dsimp only at H); have A3 := ak Z0; clear Z0
 by_cases c4 : z0 = true; rotate_left
 · replace c4 := Bool.eq_false_iff.mpr c4; subst c4; have H1 : (some (([] : List Int), false)) = some (r1, r2) := by rw [if_neg (show ¬ (false = true) by decide)] at H; exact H
   clear H; have H := H1; clear H1; simp only [Option.some.injEq, Prod.mk.injEq] at H; obtain ⟨rfl, rfl⟩ := H; go_enter Try.func11, Try.ntmps11
   go_wp2_with (first | ((with_reducible refine gate_dst (N := 2) rfl ?_); (try (refine gate_guard (by rfl) ?_; dsimp only)); refine boxA 2 #[.int .i64 a0_0, .int .i64 a0_1, .slice A0_2 l0_2.length c0_2] 26 ?_; intro c0 hg k0 hbox hb; have C0 := ak hbox; have y0 := leA (w := w) hg; have Y0 := leA (w := w) hg; replace HB := bS hb; clear hb hbox hg; obtain ⟨_, _, _, _, _, _⟩ := cel3 C0) | ((with_reducible refine gate_callee (f := 32) rfl ?_); refine goB 7 Try.func32 #[.agg #[.int .i64 a0_0, .int .i64 a0_1, .slice A0_2 l0_2.length c0_2]] rfl ?_; (with_reducible refine (spec_PlanOk.calls k a0_0 a0_1 _ _ l0_2 false _ ?side1 ?side2 A3.out).mono ?_); (case side1 => exact cA (Kd.C_below g0.out HB.out)); (case side2 => exact x0.out); rintro e k1 ⟨rfl, hb⟩; refine ⟨_, rfl, ?_⟩; replace C0 := bB C0 hb; replace HB := bS hb; (try clear hb)))
   go_ret2
   exact ⟨_, xq1, xq13, belA⟩
 subst c4; have H1 : ((spec_VectorOk.f k a0_0 l1).bind fun z1 => (if z1 = true then (if 0 ≤ (IntKind.u64.wrap (a0_1)) then (if (l1.length : Int) = (shl .i64 1 (IntKind.u64.wrap (a0_1))) then ((spec_Forward.f k a0_0 l1).bind fun z2 => (some (z2, true))) else (some (([] : List Int), false))) else (none)) else (some (([] : List Int), false)))) = some (r1, r2) := by rw [if_pos rfl] at H; exact H
 clear H; have H := H1; clear H1; replace H := Option.bind_eq_some_iff.mp H; obtain ⟨z1, Z1, H⟩ := H; (try dsimp only at H); have A5 := ak Z1; clear Z1
 by_cases c6 : z1 = true; rotate_left
 · replace c6 := Bool.eq_false_iff.mpr c6; subst c6; have H1 : (some (([] : List Int), false)) = some (r1, r2) := by rw [if_neg (show ¬ (false = true) by decide)] at H; exact H
   clear H; have H := H1; clear H1; simp only [Option.some.injEq, Prod.mk.injEq] at H; obtain ⟨rfl, rfl⟩ := H; go_enter Try.func11, Try.ntmps11
   go_wp2_with (first | ((with_reducible refine gate_dst (N := 2) rfl ?_); (try (refine gate_guard (by rfl) ?_; dsimp only)); refine boxA 2 #[.int .i64 a0_0, .int .i64 a0_1, .slice A0_2 l0_2.length c0_2] 26 ?_; intro c0 hg k2 hbox hb; have C0 := ak hbox; have y0 := leA (w := w) hg; have Y0 := leA (w := w) hg; replace HB := bS hb; clear hb hbox hg; obtain ⟨_, _, _, _, _, _⟩ := cel3 C0) | ((with_reducible refine gate_callee (f := 32) rfl ?_); refine goB 7 Try.func32 #[.agg #[.int .i64 a0_0, .int .i64 a0_1, .slice A0_2 l0_2.length c0_2]] rfl ?_; (with_reducible refine (spec_PlanOk.calls k a0_0 a0_1 _ _ l0_2 true _ ?side1 ?side2 A3.out).mono ?_); (case side1 => exact cA (Kd.C_below g0.out HB.out)); (case side2 => exact x0.out); rintro e k3 ⟨rfl, hb⟩; refine ⟨_, rfl, ?_⟩; replace C0 := bB C0 hb; replace HB := bS hb; (try clear hb); obtain ⟨_, _, _, _, _, _⟩ := cel3 C0) | (go_at_call 63; (with_reducible refine (spec_VectorOk.calls k a0_0 _ _ l1 false _ ?side1 ?side2 A5.out).mono ?_); (case side1 => exact cA (Kd.C_below g1.out HB.out)); (case side2 => exact x1.out); rintro e w' ⟨rfl, ⟨nd, rfl⟩⟩))
   go_ret2
   exact ⟨_, xq1, xq13, belA⟩
 subst c6; have H1 : (if 0 ≤ (IntKind.u64.wrap (a0_1)) then (if (l1.length : Int) = (shl .i64 1 (IntKind.u64.wrap (a0_1))) then ((spec_Forward.f k a0_0 l1).bind fun z2 => (some (z2, true))) else (some (([] : List Int), false))) else (none)) = some (r1, r2) := by rw [if_pos rfl] at H; exact H
 clear H; have H := H1; clear H1; obtain ⟨J0, G0⟩ : ∃ j_ : Int, (IntKind.u64.wrap (a0_1)) = j_ := ⟨_, rfl⟩; replace H : (if 0 ≤ (J0) then (if (l1.length : Int) = (shl .i64 1 (J0)) then ((spec_Forward.f k a0_0 l1).bind fun z2 => (some (z2, true))) else (some (([] : List Int), false))) else (none)) = some (r1, r2) := by first | (rw [G0] at H; exact H) | (simp only [G0] at H ⊢; exact H)
 (try rw [G0] at A3)
 (try rw [G0] at A5)
 by_cases c8 : 0 ≤ (J0); rotate_left
 · rw [if_neg c8] at H; exact absurd H (by simp)
 rw [if_pos c8] at H; have N0 := eq_true c8; have N1 : decide (0 ≤ (J0)) = true := decide_eq_true c8; clear c8; obtain ⟨J1, G1⟩ : ∃ j_ : Int, (shl .i64 1 (J0)) = j_ := ⟨_, rfl⟩; replace H : (if (l1.length : Int) = (J1) then ((spec_Forward.f k a0_0 l1).bind fun z2 => (some (z2, true))) else (some (([] : List Int), false))) = some (r1, r2) := by first | (rw [G1] at H; exact H) | (simp only [G1] at H ⊢; exact H)
 (try rw [G1] at A3)
 (try rw [G1] at A5)
 have G2 : (IntKind.i64.wrap (1 * 2 ^ min (J0).toNat 64)) = J1 := G1; have hji9z : (J0) ≤ 64 → (IntKind.i64.wrap (1 * 2 ^ (J0).toNat)) = J1 := shl_small G1; have hji9u : (IntKind.i64.wrap (2 ^ min (J0).toNat 64)) = J1 := by have h_ := G2; rw [Int.one_mul] at h_; exact h_
 have hji9v : (J0) ≤ 64 → (IntKind.i64.wrap (2 ^ (J0).toNat)) = J1 := fun hle_ => by have h_ := hji9z hle_; rw [Int.one_mul] at h_; exact h_
 have hji9y : (wrap64 (1 * 2 ^ min (J0).toNat 64)) = J1 := (i64_w _).symm.trans G2; have hji9x : (J0) ≤ 64 → (wrap64 (1 * 2 ^ (J0).toNat)) = J1 := fun h_ => (i64_w _).symm.trans (hji9z h_)
 by_cases c10 : (l1.length : Int) = (J1); rotate_left
 · rw [if_neg c10] at H; have N2 : ((l1.length : Int) == (J1)) = false := beq_eq_false_iff_ne.mpr c10; have N3 : ((l1.length : Int) != (J1)) = true := bne_iff_ne.mpr c10; simp only [Option.some.injEq, Prod.mk.injEq] at H; obtain ⟨rfl, rfl⟩ := H; go_enter Try.func11, Try.ntmps11
   go_wp2_with (first | ((with_reducible refine gate_dst (N := 2) rfl ?_); (try (refine gate_guard (by rfl) ?_; dsimp only)); refine boxA 2 #[.int .i64 a0_0, .int .i64 a0_1, .slice A0_2 l0_2.length c0_2] 26 ?_; intro c0 hg k4 hbox hb; have C0 := ak hbox; have y0 := leA (w := w) hg; have Y0 := leA (w := w) hg; replace HB := bS hb; clear hb hbox hg; obtain ⟨_, _, _, _, _, _⟩ := cel3 C0) | ((with_reducible refine gate_callee (f := 32) rfl ?_); refine goB 7 Try.func32 #[.agg #[.int .i64 a0_0, .int .i64 a0_1, .slice A0_2 l0_2.length c0_2]] rfl ?_; (with_reducible refine (spec_PlanOk.calls k a0_0 a0_1 _ _ l0_2 true _ ?side1 ?side2 A3.out).mono ?_); (case side1 => exact cA (Kd.C_below g0.out HB.out)); (case side2 => exact x0.out); rintro e k5 ⟨rfl, hb⟩; refine ⟨_, rfl, ?_⟩; replace C0 := bB C0 hb; replace HB := bS hb; (try clear hb); obtain ⟨_, _, _, _, _, _⟩ := cel3 C0) | (go_at_call 63; (with_reducible refine (spec_VectorOk.calls k a0_0 _ _ l1 true _ ?side1 ?side2 A5.out).mono ?_); (case side1 => exact cA (Kd.C_below g1.out HB.out)); (case side2 => exact x1.out); rintro e w' ⟨rfl, ⟨nd, rfl⟩⟩))
   go_ret2
   exact ⟨_, xq41, xq13, belA⟩
 rw [if_pos c10] at H; have N2 : ((l1.length : Int) == (J1)) = true := beq_iff_eq.mpr c10; have N3 : ((l1.length : Int) != (J1)) = false := bne_eq_false_iff_eq.mpr c10; clear c10; replace H := Option.bind_eq_some_iff.mp H; obtain ⟨z2, Z2, H⟩ := H; (try dsimp only at H); have Z3 := ak Z2; clear Z2; simp only [Option.some.injEq, Prod.mk.injEq] at H; obtain ⟨rfl, rfl⟩ := H; go_enter Try.func11, Try.ntmps11
 go_wp2_with (first | ((with_reducible refine gate_dst (N := 2) rfl ?_); (try (refine gate_guard (by rfl) ?_; dsimp only)); refine boxA 2 #[.int .i64 a0_0, .int .i64 a0_1, .slice A0_2 l0_2.length c0_2] 26 ?_; intro c0 hg k6 hbox hb; have C0 := ak hbox; have y0 := leA (w := w) hg; have Y0 := leA (w := w) hg; replace HB := bS hb; clear hb hbox hg; obtain ⟨_, _, _, _, _, _⟩ := cel3 C0) | ((with_reducible refine gate_callee (f := 32) rfl ?_); refine goB 7 Try.func32 #[.agg #[.int .i64 a0_0, .int .i64 a0_1, .slice A0_2 l0_2.length c0_2]] rfl ?_; (with_reducible refine (spec_PlanOk.calls k a0_0 a0_1 _ _ l0_2 true _ ?side1 ?side2 A3.out).mono ?_); (case side1 => exact cA (Kd.C_below g0.out HB.out)); (case side2 => exact x0.out); rintro e k7 ⟨rfl, hb⟩; refine ⟨_, rfl, ?_⟩; replace C0 := bB C0 hb; replace HB := bS hb; (try clear hb); obtain ⟨_, _, _, _, _, _⟩ := cel3 C0) | (go_at_call 63; (with_reducible refine (spec_VectorOk.calls k a0_0 _ _ l1 true _ ?side1 ?side2 A5.out).mono ?_); (case side1 => exact cA (Kd.C_below g1.out HB.out)); (case side2 => exact x1.out); rintro e w' ⟨rfl, ⟨nd, rfl⟩⟩) | ((with_reducible refine gate_callee (f := 12) rfl ?_); refine goB 28 Try.func12 #[.int .i64 a0_0, .slice A1 l1.length c1] rfl ?_; (with_reducible refine (spec_Forward.calls k a0_0 _ _ l1 z2 _ ?side1 ?side2 Z3.out).mono ?_); (case side1 => exact cA (Kd.C_below g1.out belA)); (case side2 => exact x1.out); rintro e k8 ⟨d0, rfl, D0, hb⟩; refine ⟨_, rfl, ?_⟩; have f0 := rL D0; replace C0 := bB C0 hb; replace HB := bS hb; (try clear hb D0)))
 go_ret2
 exact ⟨_, xq41, xq122, belA⟩

def laws_cp.l0 : Nat → List Int → List Int → Int → Option (List Int)
 | 0, _, _, _ => none
 | k + 1, x0, x3, x4 => if x4 < (x0.length : Int) then (if 0 ≤ x4 then (if x3.length < 17592186044416 then (laws_cp.l0 k x0 (x3 ++ [rd x0 x4]) (wrap64 (x4 + 1))) else (none)) else (none)) else (some x3)
def laws_cp.f (k : Nat) (l0 : List Int) : Option (List Int) := laws_cp.l0 k l0 (([] : List Int)) 0
theorem laws_cp.mono_l : ∀ k, (∀ y0 y1 y2, LeO (laws_cp.l0 k y0 y1 y2) (laws_cp.l0 (k + 1) y0 y1 y2))
 | 0 => fun _ _ _ r h => by simp [laws_cp.l0] at h
 | k + 1 => by
  have ih0 := laws_cp.mono_l k
  · intro y0 y1 y2; unfold laws_cp.l0; exact xq33
theorem laws_cp.mono : ∀ a0 k, LeO (laws_cp.f k a0) (laws_cp.f (k + 1) a0) := by
 intro a0 k; have b0 := laws_cp.mono_l k
 unfold laws_cp.f
 exact xq34
theorem laws_cp.calls (k : Nat) (A0 : Option Addr) (c0 : Nat) (l0 : List Int) (r : List Int) (w : World) (hr0 : Kd.C (Kd.int .i64) w A0 l0.length l0) (hc0 : l0.length ≤ c0) (h : laws_cp.f k l0 = some r) :
 Calls Try.prog 14 #[.slice A0 l0.length c0] w fun e w' => ∃ v0_ : Value, e = .returned (v0_) ∧ Kd.R (Kd.int .i64) 3 w' w.heap.size (fun _ => True) v0_ r ∧ Below w.heap.size w w' := by
 have g0 := ak hr0; have x0 := ak hc0; clear hr0 hc0; have HB := ak (Below.refl w.heap.size w); have H : (laws_cp.l0 k l0 (([] : List Int)) 0) = some r := h; clear h; obtain ⟨K0, hyq⟩ : ∃ y_ : List Int, y_ = (([] : List Int)) := ⟨_, rfl⟩; replace H : (laws_cp.l0 k l0 K0 0) = some r := by first | (rw [hyq]; with_reducible exact H) | (have e0 := (Option.bind_some _ _).symm.trans H; rw [hyq]; with_reducible exact e0) | (have e0 := (Option.bind_some _ _).symm.trans H; with_reducible exact e0) | with_reducible exact H | (rw [hyq]; exact H) | exact H
 have E0 := ak hyq; clear hyq; have H' := ak H; clear H; go_enter Try.func14, Try.ntmps14
 go_wp2_with (first | ((with_reducible refine gate_dst (N := 5) rfl ?_); refine Kd.R_lit (Kd.int .i64) _ 3 ?hg (N := 5) ?hd (xs := ([] : List Int)) (inner := []) (ok := fun _ => True) (okp := fun _ => True) ?hr ?hp (fun _ hk => hk) trivial (Below.refl _ _) (Nat.le_refl _) (by simp) ?_; (case hd => rfl); (case hg => rfl); (case hr => exact xq4); (case hp => exact (Reps.none _ _)); intro d0 w2 D0 hb hg_ hnew_; clear hg_ hnew_; (first | rw [← E0.out] at D0 | (simp only [Int.reduceToNat] at D0; rw [← E0.out] at D0)); have f0 := rL D0; replace HB := bS hb; clear hb D0))
 go_loopg [3, 4] k (fun kq v3 v4 w' => ∃ (W0 : List Int) (W1 : Int), v4 = .int .i64 W1 ∧ Aside0 (laws_cp.l0 kq l0 W0 W1 = some r) ∧ Aside0 (kq ≤ k) ∧ Aside0 (Kd.R (Kd.int .i64) 3 w' w.heap.size (fun _ => True) v3 W0) ∧ Aside0 (Below w.heap.size w w'))
 case atStart => exact ⟨(K0), (0), eqA, H', ⟨Nat.le_refl _⟩, ⟨rA f0⟩, ⟨belA⟩⟩
 case round =>
  clear H'; obtain ⟨W0, W1, rfl, HA, n0, f1, HB⟩ := hrel
  cases gk with
  | zero => exact absurd HA.out (by simp [laws_cp.l0])
  | succ k1 =>
   have H := HA.out; clear HA; simp only [laws_cp.l0] at H
   by_cases c4 : W1 < (l0.length : Int); rotate_left
   · rw [if_neg c4] at H; have N0 := decide_eq_false c4; clear c4; obtain rfl := Option.some.inj H; go_wp2
     go_ret
     exact ⟨_, xq1, xq82, belA⟩
   rw [if_pos c4] at H; have N0 := decide_eq_true c4; clear c4
   by_cases c5 : 0 ≤ W1; rotate_left
   · rw [if_neg c5] at H; exact absurd H (by simp)
   rw [if_pos c5] at H; have N1 := decide_eq_true c5; clear c5
   by_cases c6 : W0.length < 17592186044416; rotate_left
   · rw [if_neg c6] at H; exact absurd H (by simp)
   rw [if_pos c6] at H; have c1 := ak c6; clear c6; obtain ⟨K1, hyq⟩ : ∃ y_ : List Int, y_ = (W0 ++ [rd l0 W1]) := ⟨_, rfl⟩; replace H : (laws_cp.l0 k1 l0 K1 (wrap64 (W1 + 1))) = some r := by first | (rw [hyq]; with_reducible exact H) | (have e0 := (Option.bind_some _ _).symm.trans H; rw [hyq]; with_reducible exact e0) | (have e0 := (Option.bind_some _ _).symm.trans H; with_reducible exact e0) | with_reducible exact H | (rw [hyq]; exact H) | exact H
   have E1 := ak hyq; clear hyq; have H' := ak H; clear H; have v0 : 0 ≤ (W1 : Int) := odA; have V0 : W1 < (l0.length : Int) := odA; obtain ⟨a5, A1, o0⟩ := Kd.at_int g0.out W1 v0 V0
   cases A1
   try replace o0 := cB HB o0
   replace v0 := eq_true v0; replace V0 := eq_true V0; go_wp2_with (first | ((with_reducible refine gate_builtin (b := .append) (xs := #[.tmp 12, .tmp 17]) rfl ?_); at_builtin; refine Kd.R_append (Kd.int .i64) (w0 := w) w.heap.size rfl (.tmp 12) (.tmp 17) 27 3 (.int .i64 0) 8 rfl Try.underlying27 info3 rfl (by decide) (by omega) u3 W0 (rd l0 W1) [.int .i64 (rd l0 W1)] (fun _ => True) (fun _ => False) rfl rfl ?aP (fun _ hk => hk.elim) ?aF ?aO ?aB ?aS ?aL ?_; (case aP => exact rfl); (case aB => exact belA); (case aF => exact (fun _ _ => trivial)); (case aO => exact (rF f1)); (case aS => exact (below_size belA)); (case aL => exact xq36); intro d1 w7 ho hb hg hat; rw [← E1.out] at ho; have f2 := ak ho; replace HB := ak hb; clear f1; clear ho hb hg hat))
   go_roundg k1
   case measure => have := n0.out; omega
   case rel => exact ⟨(K1), (wrap64 (W1 + 1)), eqA, H', ⟨xq16⟩, ⟨rA f2⟩, ⟨belA⟩⟩

def impl_StepCost.f (a0_0 : Int) (a0_1 : Int) (a0_2 : Int) : Option (Int) := if a0_1 < 0 then (some 0) else (if a0_1 ≥ a0_2 then (some 0) else (some (wrap64 (a0_2 - a0_1))))
theorem impl_StepCost.calls (a0_0 : Int) (a0_1 : Int) (a0_2 : Int) (r : Int) (w : World) (h : impl_StepCost.f a0_0 a0_1 a0_2 = some r) :
 Calls Try.prog 16 #[.agg #[.int .i64 a0_0, .int .i64 a0_1, .int .i64 a0_2]] w fun e w' => e = .returned (.int .i64 r) ∧ Below w.heap.size w w' := by
 have B0 := Try.underlying36; have HB := ak (Below.refl w.heap.size w); have H : (if a0_1 < 0 then (some 0) else (if a0_1 ≥ a0_2 then (some 0) else (some (wrap64 (a0_2 - a0_1))))) = some r := h; clear h
 by_cases c2 : a0_1 < 0
 · rw [if_pos c2] at H; have N0 := decide_eq_true c2; clear c2; obtain rfl := Option.some.inj H; go_enter Try.func16, Try.ntmps16
   go_wp2_with (first | ((with_reducible refine gate_dst (N := 1) rfl ?_); refine boxA 1 #[.int .i64 a0_0, .int .i64 a0_1, .int .i64 a0_2] 36 ?_; intro c0 hg w3 hbox hb; have C0 := ak hbox; have y0 := leA (w := w) hg; have Y0 := leA (w := w) hg; replace HB := bS hb; clear hb hbox hg; obtain ⟨_, _, _, _, _, _⟩ := cel3 C0))
   go_ret
   exact ⟨xq1, belA⟩
 rw [if_neg c2] at H; have N0 := decide_eq_false c2; clear c2
 by_cases c5 : a0_1 ≥ a0_2
 · rw [if_pos c5] at H; have N1 : decide (a0_2 ≤ a0_1) = true := decide_eq_true c5; clear c5; obtain rfl := Option.some.inj H; go_enter Try.func16, Try.ntmps16
   go_wp2_with (first | ((with_reducible refine gate_dst (N := 1) rfl ?_); refine boxA 1 #[.int .i64 a0_0, .int .i64 a0_1, .int .i64 a0_2] 36 ?_; intro c0 hg w6 hbox hb; have C0 := ak hbox; have y0 := leA (w := w) hg; have Y0 := leA (w := w) hg; replace HB := bS hb; clear hb hbox hg; obtain ⟨_, _, _, _, _, _⟩ := cel3 C0))
   go_ret
   exact ⟨xq1, belA⟩
 rw [if_neg c5] at H; have N1 : decide (a0_2 ≤ a0_1) = false := decide_eq_false c5; clear c5; obtain rfl := Option.some.inj H; go_enter Try.func16, Try.ntmps16
 go_wp2_with (first | ((with_reducible refine gate_dst (N := 1) rfl ?_); refine boxA 1 #[.int .i64 a0_0, .int .i64 a0_1, .int .i64 a0_2] 36 ?_; intro c0 hg w8 hbox hb; have C0 := ak hbox; have y0 := leA (w := w) hg; have Y0 := leA (w := w) hg; replace HB := bS hb; clear hb hbox hg; obtain ⟨_, _, _, _, _, _⟩ := cel3 C0))
 go_ret
 exact ⟨xq1, belA⟩

def impl_logOf.l0 : Nat → Int → Int → Option (Int)
 | 0, _, _ => none
 | k + 1, x0, x4 => if x4 < 10 then (if 0 ≤ x4 then (if x0 = (shl .i64 1 x4) then (some x4) else (impl_logOf.l0 k x0 (wrap64 (x4 + 1)))) else (none)) else (some (-1))
def impl_logOf.f (k : Nat) (a0 : Int) : Option (Int) := impl_logOf.l0 k a0 0
theorem impl_logOf.mono_l : ∀ k, (∀ y0 y1, LeO (impl_logOf.l0 k y0 y1) (impl_logOf.l0 (k + 1) y0 y1))
 | 0 => fun _ _ r h => by simp [impl_logOf.l0] at h
 | k + 1 => by
  have ih0 := impl_logOf.mono_l k
  · intro y0 y1; unfold impl_logOf.l0; exact xq63
theorem impl_logOf.mono : ∀ a0 k, LeO (impl_logOf.f k a0) (impl_logOf.f (k + 1) a0) := by
 intro a0 k; have b0 := impl_logOf.mono_l k
 unfold impl_logOf.f
 exact xq64
theorem impl_logOf.calls (k : Nat) (a0 : Int) (r : Int) (w : World) (h : impl_logOf.f k a0 = some r) :
 Calls Try.prog 67 #[.int .i64 a0] w fun e w' => e = .returned (.int .i64 r) ∧ Drawn0 w w' := by
 have H : (impl_logOf.l0 k a0 0) = some r := h; clear h; have H' := ak H; clear H; go_enter Try.func67, Try.ntmps67
 go_wp2
 go_loopg [4] k (fun kq v4 w' => ∃ (W0 : Int), v4 = .int .i64 W0 ∧ Aside0 (impl_logOf.l0 kq a0 W0 = some r) ∧ Aside0 (kq ≤ k) ∧ Drawn0 w w')
 case atStart => exact ⟨(0), eqA, H', ⟨Nat.le_refl _⟩, xq3⟩
 case round =>
  clear H'; obtain ⟨W0, rfl, HA, n0, ⟨m1, rfl⟩⟩ := hrel
  cases gk with
  | zero => exact absurd HA.out (by simp [impl_logOf.l0])
  | succ k1 =>
   have H := HA.out; clear HA; simp only [impl_logOf.l0] at H
   by_cases c2 : W0 < 10; rotate_left
   · rw [if_neg c2] at H; have N0 := decide_eq_false c2; clear c2; obtain rfl := Option.some.inj H; go_wp2
     go_ret
     exact ⟨xq7, xq3⟩
   rw [if_pos c2] at H; have N0 := decide_eq_true c2; clear c2
   by_cases c3 : 0 ≤ W0; rotate_left
   · rw [if_neg c3] at H; exact absurd H (by simp)
   rw [if_pos c3] at H; have N1 := eq_true c3; have N2 : decide (0 ≤ W0) = true := decide_eq_true c3; clear c3; obtain ⟨J0, G0⟩ : ∃ j_ : Int, (shl .i64 1 W0) = j_ := ⟨_, rfl⟩; replace H : (if a0 = (J0) then (some W0) else (impl_logOf.l0 k1 a0 (wrap64 (W0 + 1)))) = some r := by first | (rw [G0] at H; exact H) | (simp only [G0] at H ⊢; exact H)
   have G1 : (IntKind.i64.wrap (1 * 2 ^ min W0.toNat 64)) = J0 := G0; have hji4z : W0 ≤ 64 → (IntKind.i64.wrap (1 * 2 ^ W0.toNat)) = J0 := shl_small G0; have hji4u : (IntKind.i64.wrap (2 ^ min W0.toNat 64)) = J0 := by have h_ := G1; rw [Int.one_mul] at h_; exact h_
   have hji4v : W0 ≤ 64 → (IntKind.i64.wrap (2 ^ W0.toNat)) = J0 := fun hle_ => by have h_ := hji4z hle_; rw [Int.one_mul] at h_; exact h_
   have hji4y : (wrap64 (1 * 2 ^ min W0.toNat 64)) = J0 := (i64_w _).symm.trans G1; have hji4x : W0 ≤ 64 → (wrap64 (1 * 2 ^ W0.toNat)) = J0 := fun h_ => (i64_w _).symm.trans (hji4z h_)
   by_cases c5 : a0 = (J0)
   · rw [if_pos c5] at H; have N3 : (a0 == (J0)) = true := beq_iff_eq.mpr c5; have N4 : (a0 != (J0)) = false := bne_eq_false_iff_eq.mpr c5; clear c5; obtain rfl := Option.some.inj H; go_wp2
     go_ret
     exact ⟨xq69, xq3⟩
   rw [if_neg c5] at H; have N3 : (a0 == (J0)) = false := beq_eq_false_iff_ne.mpr c5; have N4 : (a0 != (J0)) = true := bne_iff_ne.mpr c5; have H' := ak H; clear H; go_wp2
   go_roundg k1
   case measure => have := n0.out; omega
   case rel => exact ⟨(wrap64 (W0 + 1)), eqA, H', ⟨xq16⟩, xq3⟩

def impl_reversed.l0 : Nat → Int → Int → Int → Int → Option (Int)
 | 0, _, _, _, _ => none
 | k + 1, x0, x5, x6, x7 => if x7 < x6 then (impl_reversed.l0 k (x0 / 2) (wrap64 ((wrap64 (2 * x5)) + (Go.bits .and .i64 x0 1))) x6 (wrap64 (x7 + 1))) else (some x5)
def impl_reversed.f (k : Nat) (a0 : Int) (a1 : Int) : Option (Int) := impl_reversed.l0 k a0 0 a1 0
theorem impl_reversed.mono_l : ∀ k, (∀ y0 y1 y2 y3, LeO (impl_reversed.l0 k y0 y1 y2 y3) (impl_reversed.l0 (k + 1) y0 y1 y2 y3))
 | 0 => fun _ _ _ _ r h => by simp [impl_reversed.l0] at h
 | k + 1 => by
  have ih0 := impl_reversed.mono_l k
  · intro y0 y1 y2 y3; unfold impl_reversed.l0; exact (by repeat' (with_reducible first | exact ih0 _ _ _ _ | exact LeO.refl _ | exact LeO.none _ | refine LeO.ite ?_ ?_ | refine LeO.bind ?_ (fun _ => ?_)))
theorem impl_reversed.mono : ∀ a0 a1 k, LeO (impl_reversed.f k a0 a1) (impl_reversed.f (k + 1) a0 a1) := by
 intro a0 a1 k; have b0 := impl_reversed.mono_l k
 unfold impl_reversed.f
 exact (by repeat' (with_reducible first | exact b0 _ _ _ _ | exact LeO.refl _ | exact LeO.none _ | refine LeO.ite ?_ ?_ | refine LeO.bind ?_ (fun _ => ?_)))
theorem impl_reversed.calls (k : Nat) (a0 : Int) (a1 : Int) (r : Int) (w : World) (h : impl_reversed.f k a0 a1 = some r) :
 Calls Try.prog 120 #[.int .i64 a0, .int .i64 a1] w fun e w' => e = .returned (.int .i64 r) ∧ Drawn0 w w' := by
 have H : (impl_reversed.l0 k a0 0 a1 0) = some r := h; clear h; have H' := ak H; clear H; go_enter Try.func120, Try.ntmps120
 go_wp2
 go_loopg [0, 5, 7] k (fun kq v0 v5 v7 w' => ∃ (W0 : Int) (W1 : Int) (W2 : Int), v0 = .int .i64 W0 ∧ v5 = .int .i64 W1 ∧ v7 = .int .i64 W2 ∧ Aside0 (impl_reversed.l0 kq W0 W1 a1 W2 = some r) ∧ Aside0 (kq ≤ k) ∧ Drawn0 w w')
 case atStart => exact ⟨(a0), (0), (0), eqA, eqA, eqA, H', ⟨Nat.le_refl _⟩, xq3⟩
 case round =>
  clear H'; obtain ⟨W0, W1, W2, rfl, rfl, rfl, HA, n0, ⟨m1, rfl⟩⟩ := hrel
  cases gk with
  | zero => exact absurd HA.out (by simp [impl_reversed.l0])
  | succ k1 =>
   have H := HA.out; clear HA; simp only [impl_reversed.l0] at H
   by_cases c3 : W2 < a1; rotate_left
   · rw [if_neg c3] at H; have N0 := decide_eq_false c3; clear c3; obtain rfl := Option.some.inj H; go_wp2
     go_ret
     exact ⟨xq7, xq3⟩
   rw [if_pos c3] at H; have N0 := decide_eq_true c3; clear c3; have H' := ak H; clear H; go_wp2
   go_roundg k1
   case measure => have := n0.out; omega
   case rel => exact ⟨(W0 / 2), (wrap64 ((wrap64 (2 * W1)) + (Go.bits .and .i64 W0 1))), (wrap64 (W2 + 1)), eqA, eqA, eqA, H', ⟨xq16⟩, xq3⟩

def impl_permuted.l0 : Nat → Int → List Int → List Int → Int → Int → Option (List Int)
 | 0, _, _, _, _, _ => none
 | k + 1, x3, x4, x13, x14, x15 => if x15 < x14 then (if 0 ≤ x15 then (if x15 < (x13.length : Int) then ((impl_reversed.f k x15 x3).bind fun t338 => (if 0 ≤ t338 then (if t338 < (x4.length : Int) then (impl_permuted.l0 k x3 (x4.set (t338 : Int).toNat (rd x13 x15)) x13 x14 (wrap64 (x15 + 1))) else (none)) else (none))) else (none)) else (none)) else (some x4)
def impl_permuted.f (k : Nat) (l0 : List Int) : Option (List Int) := (impl_logOf.f k (l0.length : Int)).bind fun t333 => (if 0 ≤ (l0.length : Int) then (if ((l0.length : Int) : Int).toNat ≤ 35184372088832 then (impl_permuted.l0 k t333 (List.replicate ((l0.length : Int) : Int).toNat 0) l0 (l0.length : Int) 0) else (none)) else (none))
theorem impl_permuted.mono_l : ∀ k, (∀ y0 y1 y2 y3 y4, LeO (impl_permuted.l0 k y0 y1 y2 y3 y4) (impl_permuted.l0 (k + 1) y0 y1 y2 y3 y4))
 | 0 => fun _ _ _ _ _ r h => by simp [impl_permuted.l0] at h
 | k + 1 => by
  have ih0 := impl_permuted.mono_l k
  · intro y0 y1 y2 y3 y4; unfold impl_permuted.l0; exact (by repeat' (with_reducible first | exact ih0 _ _ _ _ _ | exact impl_logOf.mono _ _ | exact impl_reversed.mono _ _ _ | exact LeO.refl _ | exact LeO.none _ | refine LeO.ite ?_ ?_ | refine LeO.bind ?_ (fun _ => ?_)))
theorem impl_permuted.mono : ∀ a0 k, LeO (impl_permuted.f k a0) (impl_permuted.f (k + 1) a0) := by
 intro a0 k; have b0 := impl_permuted.mono_l k
 unfold impl_permuted.f
 exact (by repeat' (with_reducible first | exact b0 _ _ _ _ _ | exact impl_logOf.mono _ _ | exact impl_reversed.mono _ _ _ | exact LeO.refl _ | exact LeO.none _ | refine LeO.ite ?_ ?_ | refine LeO.bind ?_ (fun _ => ?_)))
theorem impl_permuted.calls (k : Nat) (A0 : Option Addr) (c0 : Nat) (l0 : List Int) (r : List Int) (w : World) (hr0 : Kd.C (Kd.int .i64) w A0 l0.length l0) (hc0 : l0.length ≤ c0) (h : impl_permuted.f k l0 = some r) :
 Calls Try.prog 68 #[.slice A0 l0.length c0] w fun e w' => ∃ v0_ : Value, e = .returned (v0_) ∧ Kd.R (Kd.int .i64) 3 w' w.heap.size (fun _ => True) v0_ r ∧ Below w.heap.size w w' := by
 have g0 := ak hr0; have x0 := ak hc0; clear hr0 hc0; have HB := ak (Below.refl w.heap.size w); have H : ((impl_logOf.f k (l0.length : Int)).bind fun z0 => (if 0 ≤ (l0.length : Int) then (if ((l0.length : Int) : Int).toNat ≤ 35184372088832 then (impl_permuted.l0 k z0 (List.replicate ((l0.length : Int) : Int).toNat 0) l0 (l0.length : Int) 0) else (none)) else (none))) = some r := h; clear h; replace H := Option.bind_eq_some_iff.mp H; obtain ⟨z0, Z0, H⟩ := H; (try dsimp only at H); have A2 := ak Z0; clear Z0
 by_cases c3 : 0 ≤ (l0.length : Int); rotate_left
 · rw [if_neg c3] at H; exact absurd H (by simp)
 rw [if_pos c3] at H; have N0 := eq_true c3; have N1 : decide (0 ≤ (l0.length : Int)) = true := decide_eq_true c3; clear c3
 by_cases c4 : ((l0.length : Int) : Int).toNat ≤ 35184372088832; rotate_left
 · rw [if_neg c4] at H; exact absurd H (by simp)
 rw [if_pos c4] at H; have N2 := eq_true c4; have N3 : decide (((l0.length : Int) : Int).toNat ≤ 35184372088832) = true := decide_eq_true c4; clear c4; obtain ⟨K0, hyq⟩ : ∃ y_ : List Int, y_ = (List.replicate ((l0.length : Int) : Int).toNat 0) := ⟨_, rfl⟩; replace H : (impl_permuted.l0 k z0 K0 l0 (l0.length : Int) 0) = some r := by first | (rw [hyq]; with_reducible exact H) | (have e0 := (Option.bind_some _ _).symm.trans H; rw [hyq]; with_reducible exact e0) | (have e0 := (Option.bind_some _ _).symm.trans H; with_reducible exact e0) | with_reducible exact H | (rw [hyq]; exact H) | exact H
 have E0 := ak hyq; clear hyq; have H' := ak H; clear H; go_enter Try.func68, Try.ntmps68
 go_wp2_with (first | ((with_reducible refine gate_callee (f := 67) rfl ?_); refine goB 9 Try.func67 #[.int .i64 (l0.length : Int)] rfl ?_; (with_reducible refine (impl_logOf.calls k (l0.length : Int) z0 _ A2.out).mono ?_); rintro e w' ⟨rfl, ⟨nd, rfl⟩⟩; refine ⟨_, rfl, ?_⟩) | ((with_reducible refine gate_dst (N := 12) rfl ?_); refine Kd.R_make (Kd.int .i64) _ 3 rfl (N := 12) rfl 27 _ _ rfl (l0.length : Int) rfl rfl Try.underlying27 (.int .i64 0) 8 info3 rfl (by decide) (by omega) 0 (ok := fun _ => True) (okp := fun _ => True) rfl (fun _ hk => hk) trivial (odA) (Nat.le_trans (Nat.mul_le_mul_right _ (odA : (l0.length : Int).toNat ≤ 35184372088832)) (by omega)) (Below.refl _ _) (Nat.le_refl _) ?_; intro d0 w5 D0 hb hg_ hnew_; clear hg_ hnew_; (first | rw [← E0.out] at D0 | (simp only [Int.reduceToNat] at D0; rw [← E0.out] at D0)); have f0 := rL D0; replace HB := bS hb; clear hb D0))
 go_loopg [15] k (fun kq d1 w' => ∃ (W0 : List Int) (W1 : Int), d1 = .int .i64 W1 ∧ Aside0 (impl_permuted.l0 kq z0 W0 l0 (l0.length : Int) W1 = some r) ∧ Aside0 (kq ≤ k) ∧ Aside0 (Kd.R (Kd.int .i64) 3 w' w.heap.size (fun _ => True) d0 W0) ∧ Aside0 (Below w.heap.size w w'))
 case atStart => exact ⟨(K0), (0), eqA, H', ⟨Nat.le_refl _⟩, ⟨rA f0⟩, ⟨belA⟩⟩
 case round =>
  clear H'; obtain ⟨W0, W1, rfl, HA, n0, f1, HB⟩ := hrel
  cases gk with
  | zero => exact absurd HA.out (by simp [impl_permuted.l0])
  | succ k1 =>
   have H := HA.out; clear HA; simp only [impl_permuted.l0] at H
   by_cases c7 : W1 < (l0.length : Int); rotate_left
   · rw [if_neg c7] at H; have N4 := decide_eq_false c7; clear c7; obtain rfl := Option.some.inj H; go_wp2
     go_ret
     exact ⟨_, xq1, xq82, belA⟩
   rw [if_pos c7] at H; have N4 := decide_eq_true c7; clear c7
   by_cases c8 : 0 ≤ W1; rotate_left
   · rw [if_neg c8] at H; exact absurd H (by simp)
   rw [if_pos c8] at H; have N5 := decide_eq_true c8; clear c8
   by_cases c9 : W1 < (l0.length : Int); rotate_left
   · rw [if_neg c9] at H; exact absurd H (by simp)
   rw [if_pos c9] at H; have N6 := decide_eq_true c9; clear c9; replace H := Option.bind_eq_some_iff.mp H; obtain ⟨z1, Z1, H⟩ := H; (try dsimp only at H); have Z2 := ak Z1; clear Z1
   by_cases N7 : 0 ≤ z1; rotate_left
   · rw [if_neg N7] at H; exact absurd H (by simp)
   rw [if_pos N7] at H; have N8 := decide_eq_true N7; clear N7
   by_cases N9 : z1 < (W0.length : Int); rotate_left
   · rw [if_neg N9] at H; exact absurd H (by simp)
   rw [if_pos N9] at H; have Na := decide_eq_true N9; clear N9; obtain ⟨K1, hyq⟩ : ∃ y_ : List Int, y_ = (W0.set (z1 : Int).toNat (rd l0 W1)) := ⟨_, rfl⟩; replace H : (impl_permuted.l0 k1 z0 K1 l0 (l0.length : Int) (wrap64 (W1 + 1))) = some r := by first | (rw [hyq]; with_reducible exact H) | (have e0 := (Option.bind_some _ _).symm.trans H; rw [hyq]; with_reducible exact e0) | (have e0 := (Option.bind_some _ _).symm.trans H; with_reducible exact e0) | with_reducible exact H | (rw [hyq]; exact H) | exact H
   have E1 := ak hyq; clear hyq; have H' := ak H; clear H; have v0 : 0 ≤ (W1 : Int) := odA; have V0 : W1 < (l0.length : Int) := odA; obtain ⟨a5, A1, o0⟩ := Kd.at_int g0.out W1 v0 V0
   cases A1
   try replace o0 := cB HB o0
   replace v0 := eq_true v0; replace V0 := eq_true V0; go_wp2_with (first | ((with_reducible refine gate_callee (f := 120) rfl ?_); refine goB 23 Try.func120 #[.int .i64 W1, .int .i64 z0] rfl ?_; (with_reducible refine (impl_reversed.calls k1 W1 z0 z1 _ Z2.out).mono ?_); rintro e w' ⟨rfl, ⟨nd, rfl⟩⟩; refine ⟨_, rfl, ?_⟩; (try (rw [drewN_self wr]; generalize hq_ : World.drewN wr _ = wr; have x1 : Aside0 (Kd.R (Kd.int .i64) 3 wr w.heap.size (fun _ => True) d0 W0) := ⟨by rw [← hq_]; exact (rF f1)⟩; have x2 : Aside0 (Below w.heap.size w wr) := ⟨xq23⟩; clear f1 HB hq_; have f1 := x1; have HB := x2; clear x1 x2)); have v1 : 0 ≤ (z1 : Int) := odA; have V1 : (z1 : Int) < ((W0.length : Int) : Int) := odA; obtain ⟨a6, l6, L0, c1, A3, o1, O0⟩ := Kd.R_form f1.out (by omega); (first | cases L0 | (injection L0 with ea_ en_ ec_; (first | subst ea_ | (injection ea_ with ea_; subst ea_)); subst ec_; clear en_)); have p0 := ak c1; have P0 := ak O0; clear c1 A3 O0; obtain ⟨o2, S0⟩ := Kd.R_celln 0 f1.out (z1 : Int) v1 V1; replace v1 := eq_true v1; replace V1 := eq_true V1; obtain ⟨u3, m0⟩ := Kd.R_celln 0 f1.out (z1 : Int) (odA) (odA); have U0 := Kd.R_putg f1.out (z1 : Int) (rd l0 W1)) | ((with_reducible refine gate_store (t := 3) (p := 25) rfl ?_); refine store_event (t := 3) (p := 25) (v := ?vo_w15) (w1 := (wr.setCell ⟨a6, (z1 : Int).toNat, none⟩ (.int .i64 (rd l0 W1)))) ?hg ?ho ?hn ?hr ?_; (case ho => rfl); (case hg => rfl); (case hn => rfl); (case hr => exact xq4); intro k0 hw; have hg : wr.grownBy k0 (some a6) := (by rw [hw]; exact U0.2); have hp_ : Kd.R (Kd.int .i64) 3 k0 w.heap.size (fun _ => True) (.slice (some ⟨a6, 0, none⟩) W0.length l6) K1 := (by rw [hw, E1.out]; exact U0.1); clear U0; replace f1 := ak hp_; replace HB := ak ((by rw [hw]; exact below_set (HB.out) p0.out : Below w.heap.size w k0)); clear hg hw hp_))
   go_roundg k1
   case measure => have := n0.out; omega
   case rel => exact ⟨(K1), (wrap64 (W1 + 1)), eqA, H', ⟨xq16⟩, ⟨rA f1⟩, ⟨belA⟩⟩

def impl_fieldOf.f (a0 : Int) : Option (Int × Int × Int × Bool) := Go.Proofs.Ytbojabmpcfclhaa.Fld.impl_fieldOf.f a0
theorem impl_fieldOf.calls (a0 : Int) (r1 : Int) (r2 : Int) (r3 : Int) (r4 : Bool) (w : World) (h : impl_fieldOf.f a0 = some (r1, r2, r3, r4)) :
 Calls Try.prog 84 #[.int .i64 a0] w fun e w' => e = .returned (.tuple #[.agg #[.int .i64 r1, .int .i64 r2, .int .i64 r3], .bool r4]) ∧ Below w.heap.size w w' :=
 Go.Proofs.Ytbojabmpcfclhaa.Fld.impl_fieldOf.calls a0 r1 r2 r3 r4 w h

def impl_field_areElements.l0 : Nat → List Int → Int → Int → Int → Int → Int → Option (Bool)
 | 0, _, _, _, _, _, _ => none
 | k + 1, x7, x8, x9, x341000, x341001, x341002 => if x9 < x8 then (if 0 ≤ x9 then (if x9 < (x7.length : Int) then (if (rd x7 x9) < 0 then (some false) else (if (rd x7 x9) ≥ x341000 then (some false) else (impl_field_areElements.l0 k x7 x8 (wrap64 (x9 + 1)) x341000 x341001 x341002))) else (none)) else (none)) else (some true)
def impl_field_areElements.f (k : Nat) (a0_0 : Int) (a0_1 : Int) (a0_2 : Int) (l1 : List Int) : Option (Bool) := impl_field_areElements.l0 k l1 (l1.length : Int) 0 a0_0 a0_1 a0_2
theorem impl_field_areElements.mono_l : ∀ k, (∀ y0 y1 y2 y3 y4 y5, LeO (impl_field_areElements.l0 k y0 y1 y2 y3 y4 y5) (impl_field_areElements.l0 (k + 1) y0 y1 y2 y3 y4 y5))
 | 0 => fun _ _ _ _ _ _ r h => by simp [impl_field_areElements.l0] at h
 | k + 1 => by
  have ih0 := impl_field_areElements.mono_l k
  · intro y0 y1 y2 y3 y4 y5; unfold impl_field_areElements.l0; exact xq123
theorem impl_field_areElements.mono : ∀ a0 a1 a2 a3 k, LeO (impl_field_areElements.f k a0 a1 a2 a3) (impl_field_areElements.f (k + 1) a0 a1 a2 a3) := by
 intro a0 a1 a2 a3 k; have b0 := impl_field_areElements.mono_l k
 unfold impl_field_areElements.f
 exact xq124
theorem impl_field_areElements.calls (k : Nat) (a0_0 : Int) (a0_1 : Int) (a0_2 : Int) (A1 : Option Addr) (c1 : Nat) (l1 : List Int) (r : Bool) (w : World) (hr1 : Kd.C (Kd.int .i64) w A1 l1.length l1) (hc1 : l1.length ≤ c1) (h : impl_field_areElements.f k a0_0 a0_1 a0_2 l1 = some r) :
 Calls Try.prog 121 #[.agg #[.int .i64 a0_0, .int .i64 a0_1, .int .i64 a0_2], .slice A1 l1.length c1] w fun e w' => e = .returned (.bool r) ∧ Below w.heap.size w w' := by
 have B0 := Try.underlying95; have g0 := ak hr1; have x0 := ak hc1; clear hr1 hc1; have HB := ak (Below.refl w.heap.size w); have H : (impl_field_areElements.l0 k l1 (l1.length : Int) 0 a0_0 a0_1 a0_2) = some r := h; clear h; have H' := ak H; clear H; go_enter Try.func121, Try.ntmps121
 go_wp2_with (first | ((with_reducible refine gate_dst (N := 2) rfl ?_); refine boxA 2 #[.int .i64 a0_0, .int .i64 a0_1, .int .i64 a0_2] 95 ?_; intro c0 hg w3 hbox hb; have C0 := ak hbox; have y0 := leA (w := w) hg; have Y0 := leA (w := w) hg; replace HB := bS hb; clear hb hbox hg))
 go_loopg [9] k (fun kq v9 w' => ∃ (W0 : Int), v9 = .int .i64 W0 ∧ Aside0 (impl_field_areElements.l0 kq l1 (l1.length : Int) W0 a0_0 a0_1 a0_2 = some r) ∧ Aside0 (kq ≤ k) ∧ Aside0 (w'.heap[c0]? = some (.cells #[.int .i64 a0_0, .int .i64 a0_1, .int .i64 a0_2] 95 (0, 0))) ∧ Aside0 (Below w.heap.size w w'))
 case atStart => exact ⟨(0), eqA, H', ⟨Nat.le_refl _⟩, ⟨blkA⟩, ⟨belA⟩⟩
 case round =>
  clear H'; obtain ⟨W0, rfl, HA, n0, C0, HB⟩ := hrel
  cases gk with
  | zero => exact absurd HA.out (by simp [impl_field_areElements.l0])
  | succ k1 =>
   have H := HA.out; clear HA; simp only [impl_field_areElements.l0] at H
   by_cases c4 : W0 < (l1.length : Int); rotate_left
   · rw [if_neg c4] at H; have N0 := decide_eq_false c4; clear c4; obtain rfl := Option.some.inj H; go_wp2
     go_ret
     exact ⟨xq1, belA⟩
   rw [if_pos c4] at H; have N0 := decide_eq_true c4; clear c4
   by_cases c5 : 0 ≤ W0; rotate_left
   · rw [if_neg c5] at H; exact absurd H (by simp)
   rw [if_pos c5] at H; have N1 := decide_eq_true c5; clear c5
   by_cases c6 : W0 < (l1.length : Int); rotate_left
   · rw [if_neg c6] at H; exact absurd H (by simp)
   rw [if_pos c6] at H; have N2 := decide_eq_true c6; clear c6
   by_cases c7 : (rd l1 W0) < 0
   · rw [if_pos c7] at H; have N3 := decide_eq_true c7; clear c7; obtain rfl := Option.some.inj H; have v0 : 0 ≤ (W0 : Int) := odA; have V0 : W0 < (l1.length : Int) := odA; obtain ⟨a5, A0, o0⟩ := Kd.at_int g0.out W0 v0 V0
     cases A0
     try replace o0 := cB HB o0
     replace v0 := eq_true v0; replace V0 := eq_true V0; go_wp2
     go_ret
     exact ⟨xq1, belA⟩
   rw [if_neg c7] at H; have N3 := decide_eq_false c7; clear c7
   by_cases c8 : (rd l1 W0) ≥ a0_0; rotate_left
   · rw [if_neg c8] at H; have N4 : decide (a0_0 ≤ (rd l1 W0)) = false := decide_eq_false c8; clear c8; have H' := ak H; clear H; have v0 : 0 ≤ (W0 : Int) := odA; have V0 : W0 < (l1.length : Int) := odA; obtain ⟨a5, A0, o0⟩ := Kd.at_int g0.out W0 v0 V0
     cases A0
     try replace o0 := cB HB o0
     replace v0 := eq_true v0; replace V0 := eq_true V0; obtain ⟨_, _, _, _, _, _⟩ := cel3 C0; go_wp2
     go_roundg k1
     case measure => have := n0.out; omega
     case rel => exact ⟨(wrap64 (W0 + 1)), eqA, H', ⟨xq16⟩, ⟨blkA⟩, ⟨belA⟩⟩
   rw [if_pos c8] at H; have N4 : decide (a0_0 ≤ (rd l1 W0)) = true := decide_eq_true c8; clear c8; obtain rfl := Option.some.inj H; have v0 : 0 ≤ (W0 : Int) := odA; have V0 : W0 < (l1.length : Int) := odA; obtain ⟨a5, A0, o0⟩ := Kd.at_int g0.out W0 v0 V0
   cases A0
   try replace o0 := cB HB o0
   replace v0 := eq_true v0; replace V0 := eq_true V0; obtain ⟨_, _, _, _, _, _⟩ := cel3 C0; go_wp2
   go_ret
   exact ⟨xq1, belA⟩

end Go.Proofs.Ytbojabmpcfclhaa.PFnPlanTurned

-- Written by a program of this session (the print of the kit with contracts of this session's own added)
import Derived.Test.YtbojabmpcfclhaaZFPTx12
set_option maxHeartbeats 8000000
set_option maxRecDepth 100000
namespace Go.Proofs.Ytbojabmpcfclhaa.PFnPlanTurned
open Go.RowKit Go.Proofs.YtbojabmpcfclhaaW.PrintWords Go.Proofs.YtbojabmpcfclhaaW.PrintLast Go.Proofs.YtbojabmpcfclhaaW.PrintMore Go.Proofs.YtbojabmpcfclhaaW.PrintPack Go.Proofs.YtbojabmpcfclhaaW.PrintPack
attribute [local go_sem] max2_int min2_int max_two min_two max_three min_three max_four min_four   -- for this text's walks alone
set_option linter.unusedVariables false
set_option linter.unusedSimpArgs false

mutual
def impl_RunPlan.j0 : Nat → List Int → Bool → Int → Int → List (S36) → Int → Int → Int → Option (List Int × Bool)
 | 0, _, _, _, _, _, _, _, _ => none
 | k + 1, x1, x33, x380000, x380001, x380002, x388000, x388001, x388002 => if x33 = true then (some (([] : List Int), false)) else ((impl_permuted.f k x1).bind fun t389 => (impl_RunPlan.l0 k t389 x380002 (x380002.length : Int) 0 x388000 x388001 x388002))
def impl_RunPlan.l0 : Nat → List Int → List (S36) → Int → Int → Int → Int → Int → Option (List Int × Bool)
 | 0, _, _, _, _, _, _, _ => none
 | k + 1, x8, x37, x38, x39, x388000, x388001, x388002 => if x39 < x38 then (if 0 ≤ x39 then (if x39 < (x37.length : Int) then ((impl_field_runStep.f k x388000 x388001 x388002 x8 ((rd_T36 x37 x39).f0) ((rd_T36 x37 x39).f1) ((rd_T36 x37 x39).f2)).bind fun t394 => (impl_RunPlan.l0 k t394 x37 x38 (wrap64 (x39 + 1)) x388000 x388001 x388002)) else (none)) else (none)) else (some (x8, true))
end
def impl_RunPlan.f (k : Nat) (a0_0 : Int) (a0_1 : Int) (l0_2 : List (S36)) (l1 : List Int) : Option (List Int × Bool) := (impl_vectorField.f k a0_0 (([l1] : List (List Int)))).bind fun bt383 => (if bt383.2.2.2 = true then ((impl_isPlan.f k a0_0 a0_1 l0_2).bind fun t388 => (if t388 = true then (if 0 ≤ a0_1 then (impl_RunPlan.j0 k l1 ((l1.length : Int) != (shl .i64 1 a0_1)) a0_0 a0_1 l0_2 bt383.1 bt383.2.1 bt383.2.2.1) else (none)) else (impl_RunPlan.j0 k l1 true a0_0 a0_1 l0_2 bt383.1 bt383.2.1 bt383.2.2.1))) else (impl_RunPlan.j0 k l1 true a0_0 a0_1 l0_2 bt383.1 bt383.2.1 bt383.2.2.1))
theorem impl_RunPlan.mono_l : ∀ k, (∀ y0 y1 y2 y3 y4 y5 y6 y7, LeO (impl_RunPlan.j0 k y0 y1 y2 y3 y4 y5 y6 y7) (impl_RunPlan.j0 (k + 1) y0 y1 y2 y3 y4 y5 y6 y7)) ∧ (∀ y0 y1 y2 y3 y4 y5 y6, LeO (impl_RunPlan.l0 k y0 y1 y2 y3 y4 y5 y6) (impl_RunPlan.l0 (k + 1) y0 y1 y2 y3 y4 y5 y6))
 | 0 => ⟨fun _ _ _ _ _ _ _ _ r h => by simp [impl_RunPlan.j0] at h, fun _ _ _ _ _ _ _ r h => by simp [impl_RunPlan.l0] at h⟩
 | k + 1 => by
  obtain ⟨ih0, ih1⟩ := impl_RunPlan.mono_l k; refine ⟨?_, ?_⟩
  · intro y0 y1 y2 y3 y4 y5 y6 y7; unfold impl_RunPlan.j0; exact xq85
  · intro y0 y1 y2 y3 y4 y5 y6; unfold impl_RunPlan.l0; exact xq85
theorem impl_RunPlan.mono : ∀ a0 a1 a2 a3 k, LeO (impl_RunPlan.f k a0 a1 a2 a3) (impl_RunPlan.f (k + 1) a0 a1 a2 a3) := by
 intro a0 a1 a2 a3 k; obtain ⟨b0, b1⟩ := impl_RunPlan.mono_l k
 unfold impl_RunPlan.f
 exact (by repeat' (with_reducible first | exact b0 _ _ _ _ _ _ _ _ | exact b1 _ _ _ _ _ _ _ | exact impl_field_runStep.mono _ _ _ _ _ _ _ _ | exact impl_isPlan.mono _ _ _ _ | exact impl_permuted.mono _ _ | exact impl_vectorField.mono _ _ _ | exact LeO.refl _ | exact LeO.none _ | refine LeO.ite ?_ ?_ | refine LeO.bind ?_ (fun _ => ?_)))
theorem impl_RunPlan.calls (k : Nat) (a0_0 : Int) (a0_1 : Int) (A0_2 : Option Addr) (c0_2 : Nat) (l0_2 : List (S36)) (P1_ : Nat → Prop) (A1 : Option Addr) (c1 : Nat) (l1 : List Int) (r1 : List Int) (r2 : Bool) (w : World) (hr0_2 : Kd.C k36 w A0_2 l0_2.length l0_2) (hc0_2 : l0_2.length ≤ c0_2) (hs1 : Kd.V (Kd.int .i64) 3 w w.heap.size (fun k_ => P1_ k_) (.slice A1 l1.length c1) l1) (h : impl_RunPlan.f k a0_0 a0_1 l0_2 l1 = some (r1, r2)) :
 Calls Try.prog 17 #[.agg #[.int .i64 a0_0, .int .i64 a0_1, .slice A0_2 l0_2.length c0_2], .slice A1 l1.length c1] w fun e w' => ∃ v0_ : Value, e = .returned (.tuple #[v0_, .bool r2]) ∧ Kd.R (Kd.int .i64) 3 w' w.heap.size (fun k_ => (w.heap.size ≤ k_)) v0_ r1 ∧ Below w.heap.size w w' := by
 have B0 := Try.underlying26; have B2 := Try.underlying95; have B4 := Try.underlying36; have g0 := ak hr0_2; have x0 := ak hc0_2; clear hr0_2 hc0_2; have f3 := ak (show Kd.V (Kd.int .i64) 3 w w.heap.size (fun k_ => (P1_ k_ ∨ w.heap.size ≤ k_)) (.slice A1 l1.length c1) l1 from Kd.V_mono hs1 (fun k_ hk => .inl hk)); have HB := ak (Below.refl w.heap.size w); have H : ((impl_vectorField.f k a0_0 (([l1] : List (List Int)))).bind fun U0 => (if U0.2.2.2 = true then ((impl_isPlan.f k a0_0 a0_1 l0_2).bind fun z0 => (if z0 = true then (if 0 ≤ a0_1 then (impl_RunPlan.j0 k l1 ((l1.length : Int) != (shl .i64 1 a0_1)) a0_0 a0_1 l0_2 U0.1 U0.2.1 U0.2.2.1) else (none)) else (impl_RunPlan.j0 k l1 true a0_0 a0_1 l0_2 U0.1 U0.2.1 U0.2.2.1))) else (impl_RunPlan.j0 k l1 true a0_0 a0_1 l0_2 U0.1 U0.2.1 U0.2.2.1))) = some (r1, r2) := h; clear h; obtain ⟨K0, hyq⟩ : ∃ y_ : List (List Int), y_ = (([l1] : List (List Int))) := ⟨_, rfl⟩; replace H : ((impl_vectorField.f k a0_0 K0).bind fun U0 => (if U0.2.2.2 = true then ((impl_isPlan.f k a0_0 a0_1 l0_2).bind fun z0 => (if z0 = true then (if 0 ≤ a0_1 then (impl_RunPlan.j0 k l1 ((l1.length : Int) != (shl .i64 1 a0_1)) a0_0 a0_1 l0_2 U0.1 U0.2.1 U0.2.2.1) else (none)) else (impl_RunPlan.j0 k l1 true a0_0 a0_1 l0_2 U0.1 U0.2.1 U0.2.2.1))) else (impl_RunPlan.j0 k l1 true a0_0 a0_1 l0_2 U0.1 U0.2.1 U0.2.2.1))) = some (r1, r2) := by first | (rw [hyq]; with_reducible exact H) | (have e0 := (Option.bind_some _ _).symm.trans H; rw [hyq]; with_reducible exact e0) | (have e0 := (Option.bind_some _ _).symm.trans H; with_reducible exact e0) | with_reducible exact H | (rw [hyq]; exact H) | exact H
 have E0 := ak hyq; clear hyq; replace H := Option.bind_eq_some_iff.mp H; obtain ⟨⟨z1, z2, z3, z4⟩, Z0, H⟩ := H; (try dsimp only at H); have A3 := ak Z0; clear Z0; have x1 := ak H; clear H; go_enter Try.func17, Try.ntmps17
 go_upto_region 2 with (first | ((with_reducible refine gate_dst (N := 2) rfl ?_); (try (refine gate_guard (by rfl) ?_; dsimp only)); refine boxA 2 #[.int .i64 a0_0, .int .i64 a0_1, .slice A0_2 l0_2.length c0_2] 26 ?_; intro c0 hg w5 hbox hb; have C0 := ak hbox; have y0 := leA (w := w) hg; have Y0 := leA (w := w) hg; replace f3 := vC f3 hg hb; replace HB := bS hb; clear hb hbox hg; obtain ⟨_, _, _, _, _, _⟩ := cel3 C0) | ((with_reducible refine gate_dst (N := 15) rfl ?_); (try (refine gate_guard (by rfl) ?_; dsimp only)); refine Kd.N_lit (Kd.slice 3 (Kd.int .i64)) _ 27 ?hg (N' := 15) ?hd (xs := ([l1] : List (List Int))) (inner := [.slice A1 l1.length c1]) (ok := (fun k_ => (P1_ k_ ∨ w.heap.size ≤ k_) ∧ k_ ≠ c0)) (okp := (fun k_ => (P1_ k_ ∨ w.heap.size ≤ k_) ∧ k_ ≠ c0)) ?hr ?hp (fun _ hk => hk) ((show ∀ k_, w5.heap.size ≤ k_ → (fun k_ => (P1_ k_ ∨ w.heap.size ≤ k_) ∧ k_ ≠ c0) k_ from fun k_ hk => ⟨(.inr (Nat.le_trans (below_size belA) hk)), Kd.freshB (g := c0) (o := .cells #[.int .i64 a0_0, .int .i64 a0_1, .slice A0_2 l0_2.length c0_2] 26 (0, 0)) blkA k_ hk⟩) _ (Nat.le_refl _)) (Below.refl _ _) (Nat.le_refl _) (by simp) ?_; (case hd => rfl); (case hg => rfl); (case hr => exact xq4); (case hp => exact (Reps.one (show Kd.FK (Kd.slice 3 (Kd.int .i64)) _ _ l1 [.slice A1 l1.length c1] from (Kd.FK_slice_mk (Kd.V_reads' (Kd.V_mono (ok' := (fun k_ => (P1_ k_ ∨ w.heap.size ≤ k_) ∧ k_ ≠ c0)) (f3.out) (fun k_ hk => ⟨hk.1, hk.2⟩))).2.1 (Kd.V_F (Kd.V_mono (ok' := (fun k_ => (P1_ k_ ∨ w.heap.size ≤ k_) ∧ k_ ≠ c0)) (f3.out) (fun k_ hk => ⟨hk.1, hk.2⟩))))) (Reps.none _ _))); intro d0 w7 D0 hb hg_ hnew_; clear hg_ hnew_; (first | rw [← E0.out] at D0 | (simp only [Int.reduceToNat] at D0; rw [← E0.out] at D0)); have f4 := nL D0; replace f3 := vD f3 (Kd.N_base D0) hb; replace C0 := bB C0 hb; replace HB := bS hb; clear hb D0; obtain ⟨F0, l6, L0⟩ := Kd.N_slice f4.out; subst L0) | ((with_reducible refine gate_callee (f := 69) rfl ?_); refine goB 16 Try.func69 #[.int .i64 a0_0, .slice F0 K0.length l6] rfl ?_; (with_reducible refine (impl_vectorField.calls k a0_0 _ _ K0 z1 z2 z3 z4 _ ?side1 ?side2 A3.out).mono ?_); (case side1 => exact cA ((Kd.N_reads' f4.out).2.2)); (case side2 => exact (Kd.N_reads' f4.out).2.1); rintro e k0 ⟨rfl, hb⟩; refine ⟨_, rfl, ?_⟩; replace f3 := vB f3 hb; replace f4 := nB f4 hb; replace C0 := bB C0 hb; replace HB := bS hb; (try clear hb)) | ((with_reducible refine gate_dst (N := 6) rfl ?_); (try (refine gate_guard (by rfl) ?_; dsimp only)); refine boxA 6 #[.int .i64 0, .int .i64 0, .int .i64 0] 95 ?_; intro ca hg k1 hbox hb; have C1 := ak hbox; have y1 := leA (w := w) hg; have Y1 := leA (w := w) hg; have i0 := neL hg C0; have i1 := neG hg C0; replace f3 := vC f3 hg hb; replace f4 := nC f4 hg hb; replace C0 := bB C0 hb; replace HB := bS hb; clear hb hbox hg; have I0 := i1.out; have j3 := i0.out; obtain ⟨_, _, _, _, _, _⟩ := cel3 C1))
 (try simp only [Act.put, sa, sb, sc])
 go_cut [33] (fun d1 wc => ∃ (kq : Nat) (W0 : Bool), d1 = .bool W0 ∧ Aside0 (impl_RunPlan.j0 kq l1 W0 a0_0 a0_1 l0_2 z1 z2 z3 = some (r1, r2)) ∧ Aside0 (kq ≤ k) ∧ Aside0 (Kd.V (Kd.int .i64) 3 wc w.heap.size (fun k_ => (P1_ k_ ∨ w.heap.size ≤ k_) ∧ k_ ≠ c0 ∧ k_ ≠ ca) (.slice A1 l1.length c1) l1) ∧ Aside0 (wc.heap[c0]? = some (.cells #[.int .i64 a0_0, .int .i64 a0_1, (.slice A0_2 l0_2.length c0_2)] 26 (0, 0))) ∧ Aside0 (wc.heap[ca]? = some (.cells #[.int .i64 z1, .int .i64 z2, .int .i64 z3] 95 (0, 0))) ∧ Aside0 (Below w.heap.size w wc))
 case first =>
  have H := x1.out; clear x1
  by_cases N0 : z4 = true; rotate_left
  · replace N0 := Bool.eq_false_iff.mpr N0; subst N0; have H1 : (impl_RunPlan.j0 k l1 true a0_0 a0_1 l0_2 z1 z2 z3) = some (r1, r2) := by rw [if_neg (show ¬ (false = true) by decide)] at H; exact H
    clear H; have H := H1; clear H1; have H' := ak H; clear H; go_wp2
    go_meet
    case rel => exact ⟨_, (true), eqA, H', ⟨xq11⟩, ⟨vE (Kd.V_mono (Kd.V_far (p := ⟨ca, 2, none⟩) (Kd.V_far (p := ⟨ca, 1, none⟩) (Kd.V_far (p := ⟨ca, 0, none⟩) (Kd.V_mono f3.out (fun k_ hk => (⟨hk, hk.2⟩ : _ ∧ k_ ≠ ca))) (fun _ hk => hk.2) (.int .i64 z1)) (fun _ hk => hk.2) (.int .i64 z2)) (fun _ hk => hk.2) (.int .i64 z3)) (fun _ hk => ⟨hk.1.1.1.1, ⟨hk.1.1.1.2, hk.1.2⟩⟩))⟩, ⟨xq18⟩, ⟨xq68⟩, ⟨belA⟩⟩
  subst N0; have H1 : ((impl_isPlan.f k a0_0 a0_1 l0_2).bind fun z0 => (if z0 = true then (if 0 ≤ a0_1 then (impl_RunPlan.j0 k l1 ((l1.length : Int) != (shl .i64 1 a0_1)) a0_0 a0_1 l0_2 z1 z2 z3) else (none)) else (impl_RunPlan.j0 k l1 true a0_0 a0_1 l0_2 z1 z2 z3))) = some (r1, r2) := by rw [if_pos rfl] at H; exact H
  clear H; have H := H1; clear H1; replace H := Option.bind_eq_some_iff.mp H; obtain ⟨z0, Z1, H⟩ := H; (try dsimp only at H); have Z2 := ak Z1; clear Z1
  by_cases N1 : z0 = true; rotate_left
  · replace N1 := Bool.eq_false_iff.mpr N1; subst N1; have H1 : (impl_RunPlan.j0 k l1 true a0_0 a0_1 l0_2 z1 z2 z3) = some (r1, r2) := by rw [if_neg (show ¬ (false = true) by decide)] at H; exact H
    clear H; have H := H1; clear H1; have H' := ak H; clear H; have I1 := i0.out; have j5 := i1.out; obtain ⟨_, _, _, _, _, _⟩ := cel3 C0; go_wp2_with (first | (go_at_call 72; (with_reducible refine (impl_isPlan.calls k a0_0 a0_1 _ _ l0_2 false _ ?side1 ?side2 Z2.out).mono ?_); (case side1 => exact Kd.C_below g0.out belA); (case side2 => exact x0.out); rintro e k3 ⟨rfl, hb⟩; replace f3 := ak (Kd.V_below (vE (Kd.V_mono (Kd.V_far (p := ⟨ca, 2, none⟩) (Kd.V_far (p := ⟨ca, 1, none⟩) (Kd.V_far (p := ⟨ca, 0, none⟩) (Kd.V_mono f3.out (fun k_ hk => (⟨hk, hk.2⟩ : _ ∧ k_ ≠ ca))) (fun _ hk => hk.2) (.int .i64 z1)) (fun _ hk => hk.2) (.int .i64 z2)) (fun _ hk => hk.2) (.int .i64 z3)) (fun _ h_ => h_.1))) hb); replace f4 := ak (Kd.N_below (nE (Kd.N_mono (Kd.N_far (p := ⟨ca, 2, none⟩) (Kd.N_far (p := ⟨ca, 1, none⟩) (Kd.N_far (p := ⟨ca, 0, none⟩) (Kd.N_mono f4.out (fun k_ hk => (⟨hk, hk.2⟩ : _ ∧ k_ ≠ ca))) (fun _ hk => hk.2) (.int .i64 z1)) (fun _ hk => hk.2) (.int .i64 z2)) (fun _ hk => hk.2) (.int .i64 z3)) (fun _ h_ => h_.1))) hb); replace C0 := ak (blk_below (g := c0) (o := .cells #[.int .i64 a0_0, .int .i64 a0_1, .slice A0_2 l0_2.length c0_2] 26 (0, 0)) xq18 hb); replace C1 := ak (blk_below (g := ca) (o := .cells #[.int .i64 z1, .int .i64 z2, .int .i64 z3] 95 (0, 0)) xq68 hb); replace HB := bS hb; (try clear hb)))
    go_meet
    case rel => exact ⟨_, (true), eqA, H', ⟨xq11⟩, ⟨vE (Kd.V_mono f3.out (fun _ hk => ⟨hk.1.1.1, ⟨hk.1.1.2, hk.2⟩⟩))⟩, ⟨blkA⟩, ⟨blkA⟩, ⟨belA⟩⟩
  subst N1; have H1 : (if 0 ≤ a0_1 then (impl_RunPlan.j0 k l1 ((l1.length : Int) != (shl .i64 1 a0_1)) a0_0 a0_1 l0_2 z1 z2 z3) else (none)) = some (r1, r2) := by rw [if_pos rfl] at H; exact H
  clear H; have H := H1; clear H1
  by_cases N2 : 0 ≤ a0_1; rotate_left
  · rw [if_neg N2] at H; exact absurd H (by simp)
  rw [if_pos N2] at H; have N3 := eq_true N2; have N4 : decide (0 ≤ a0_1) = true := decide_eq_true N2; clear N2; obtain ⟨J0, G0⟩ : ∃ j_ : Int, (shl .i64 1 a0_1) = j_ := ⟨_, rfl⟩; replace H : (impl_RunPlan.j0 k l1 ((l1.length : Int) != (J0)) a0_0 a0_1 l0_2 z1 z2 z3) = some (r1, r2) := by first | (rw [G0] at H; exact H) | (simp only [G0] at H ⊢; exact H)
  (try rw [G0] at Z2)
  have G1 : (IntKind.i64.wrap (1 * 2 ^ min a0_1.toNat 64)) = J0 := G0; have hji18z : a0_1 ≤ 64 → (IntKind.i64.wrap (1 * 2 ^ a0_1.toNat)) = J0 := shl_small G0; have hji18u : (IntKind.i64.wrap (2 ^ min a0_1.toNat 64)) = J0 := by have h_ := G1; rw [Int.one_mul] at h_; exact h_
  have hji18v : a0_1 ≤ 64 → (IntKind.i64.wrap (2 ^ a0_1.toNat)) = J0 := fun hle_ => by have h_ := hji18z hle_; rw [Int.one_mul] at h_; exact h_
  have hji18y : (wrap64 (1 * 2 ^ min a0_1.toNat 64)) = J0 := (i64_w _).symm.trans G1; have hji18x : a0_1 ≤ 64 → (wrap64 (1 * 2 ^ a0_1.toNat)) = J0 := fun h_ => (i64_w _).symm.trans (hji18z h_)
  have H' := ak H; clear H; have I2 := i0.out; have j6 := i1.out; obtain ⟨_, _, _, _, _, _⟩ := cel3 C0; go_wp2_with (first | (go_at_call 72; (with_reducible refine (impl_isPlan.calls k a0_0 a0_1 _ _ l0_2 true _ ?side1 ?side2 Z2.out).mono ?_); (case side1 => exact Kd.C_below g0.out belA); (case side2 => exact x0.out); rintro e k4 ⟨rfl, hb⟩; replace f3 := ak (Kd.V_below (vE (Kd.V_mono (Kd.V_far (p := ⟨ca, 2, none⟩) (Kd.V_far (p := ⟨ca, 1, none⟩) (Kd.V_far (p := ⟨ca, 0, none⟩) (Kd.V_mono f3.out (fun k_ hk => (⟨hk, hk.2⟩ : _ ∧ k_ ≠ ca))) (fun _ hk => hk.2) (.int .i64 z1)) (fun _ hk => hk.2) (.int .i64 z2)) (fun _ hk => hk.2) (.int .i64 z3)) (fun _ h_ => h_.1))) hb); replace f4 := ak (Kd.N_below (nE (Kd.N_mono (Kd.N_far (p := ⟨ca, 2, none⟩) (Kd.N_far (p := ⟨ca, 1, none⟩) (Kd.N_far (p := ⟨ca, 0, none⟩) (Kd.N_mono f4.out (fun k_ hk => (⟨hk, hk.2⟩ : _ ∧ k_ ≠ ca))) (fun _ hk => hk.2) (.int .i64 z1)) (fun _ hk => hk.2) (.int .i64 z2)) (fun _ hk => hk.2) (.int .i64 z3)) (fun _ h_ => h_.1))) hb); replace C0 := ak (blk_below (g := c0) (o := .cells #[.int .i64 a0_0, .int .i64 a0_1, .slice A0_2 l0_2.length c0_2] 26 (0, 0)) xq18 hb); replace C1 := ak (blk_below (g := ca) (o := .cells #[.int .i64 z1, .int .i64 z2, .int .i64 z3] 95 (0, 0)) xq68 hb); replace HB := bS hb; (try clear hb); obtain ⟨_, _, _, _, _, _⟩ := cel3 C0))
  go_meet
  case rel => exact ⟨_, (((l1.length : Int) != (J0))), xq69, H', ⟨xq11⟩, ⟨vE (Kd.V_mono f3.out (fun _ hk => ⟨hk.1.1.1, ⟨hk.1.1.2, hk.2⟩⟩))⟩, ⟨blkA⟩, ⟨blkA⟩, ⟨belA⟩⟩
 case rest =>
  clear x1; obtain ⟨kq, W0, rfl, HA, t0, f5, C0, C1, HB⟩ := hcut
  cases kq with
  | zero => exact absurd HA.out (by simp [impl_RunPlan.j0])
  | succ g1 =>
   have H := HA.out; clear HA; simp only [impl_RunPlan.j0] at H
   by_cases N5 : W0 = true
   · subst N5; have H1 : (some (([] : List Int), false)) = some (r1, r2) := by rw [if_pos rfl] at H; exact H
     clear H; have H := H1; clear H1; simp only [Option.some.injEq, Prod.mk.injEq] at H; obtain ⟨rfl, rfl⟩ := H; go_wp2
     go_ret2
     exact ⟨_, xq1, xq13, belA⟩
   replace N5 := Bool.eq_false_iff.mpr N5; subst N5; have H1 : ((impl_permuted.f g1 l1).bind fun z5 => (impl_RunPlan.l0 g1 z5 l0_2 (l0_2.length : Int) 0 z1 z2 z3)) = some (r1, r2) := by rw [if_neg (show ¬ (false = true) by decide)] at H; exact H
   clear H; have H := H1; clear H1; replace H := Option.bind_eq_some_iff.mp H; obtain ⟨z5, Z3, H⟩ := H; (try dsimp only at H); have Z4 := ak Z3; clear Z3; have H' := ak H; clear H; go_wp2_with (first | ((with_reducible refine gate_callee (f := 68) rfl ?_); refine goB 35 Try.func68 #[.slice A1 l1.length c1] rfl ?_; (with_reducible refine (impl_permuted.calls g1 _ _ l1 z5 _ ?side1 ?side2 Z4.out).mono ?_); (case side1 => exact cA ((Kd.V_reads' f5.out).2.2)); (case side2 => exact (Kd.V_reads' f5.out).2.1); rintro e k5 ⟨d2, rfl, D1, hb⟩; refine ⟨_, rfl, ?_⟩; have f6 := rL (Kd.R_newM (M := fun k_ => (w.heap.size ≤ k_)) D1 (below_size belA) (fun k_ h_ => h_)); replace f5 := vD f5 (Kd.R_base D1) hb; replace C0 := bB C0 hb; replace C1 := bB C1 hb; replace HB := bS hb; (try clear hb D1); have I3 := i0.out; have j7 := i1.out; obtain ⟨_, _, _, _, _, _⟩ := cel3 C0))
   go_loopg [8, 39] g1 (fun kq v8 d3 w' => ∃ (W1 : List Int) (W2 : Int), d3 = .int .i64 W2 ∧ Aside0 (impl_RunPlan.l0 kq W1 l0_2 (l0_2.length : Int) W2 z1 z2 z3 = some (r1, r2)) ∧ Aside0 (kq ≤ g1) ∧ Aside0 (Kd.R (Kd.int .i64) 3 w' w.heap.size (fun k_ => (w.heap.size ≤ k_)) v8 W1) ∧ Aside0 (w'.heap[c0]? = some (.cells #[.int .i64 a0_0, .int .i64 a0_1, (.slice A0_2 l0_2.length c0_2)] 26 (0, 0))) ∧ Aside0 (w'.heap[ca]? = some (.cells #[.int .i64 z1, .int .i64 z2, .int .i64 z3] 95 (0, 0))) ∧ Aside0 (Below w.heap.size w w'))
   case atStart => exact ⟨(z5), (0), eqA, H', ⟨Nat.le_refl _⟩, ⟨rE (Kd.R_mono f6.out (fun _ hk => hk.1))⟩, ⟨blkA⟩, ⟨blkA⟩, ⟨belA⟩⟩
   case round =>
    clear H'; obtain ⟨W1, W2, rfl, HA, n0, f7, C0, C1, HB⟩ := hrel
    cases gk with
    | zero => exact absurd HA.out (by simp [impl_RunPlan.l0])
    | succ k2 =>
     have H := HA.out; clear HA; simp only [impl_RunPlan.l0] at H
     by_cases N6 : W2 < (l0_2.length : Int); rotate_left
     · rw [if_neg N6] at H; have N7 := decide_eq_false N6; clear N6; simp only [Option.some.injEq, Prod.mk.injEq] at H; obtain ⟨rfl, rfl⟩ := H; go_wp2
       go_ret2
       exact ⟨_, xq1, by (with_reducible repeat (first | apply Kd.R_alloc | apply Kd.R_drewN | apply Kd.R_drew)); exact f7.out, belA⟩
     rw [if_pos N6] at H; have N7 := decide_eq_true N6; clear N6
     by_cases N8 : 0 ≤ W2; rotate_left
     · rw [if_neg N8] at H; exact absurd H (by simp)
     rw [if_pos N8] at H; have N9 := decide_eq_true N8; clear N8
     by_cases Na : W2 < (l0_2.length : Int); rotate_left
     · rw [if_neg Na] at H; exact absurd H (by simp)
     rw [if_pos Na] at H; have Nb := decide_eq_true Na; clear Na; replace H := Option.bind_eq_some_iff.mp H; obtain ⟨z6, Z5, H⟩ := H; (try dsimp only at H); have Z6 := ak Z5; clear Z5; have H' := ak H; clear H; have v0 : 0 ≤ (W2 : Int) := odA; have V0 : W2 < (l0_2.length : Int) := odA; obtain ⟨a5, A0, o0, o1, o2⟩ := at_T36 g0.out W2 v0 V0
     cases A0
     try replace o0 := cB HB o0
     try replace o1 := cB HB o1
     try replace o2 := cB HB o2
     replace v0 := eq_true v0; replace V0 := eq_true V0; go_wp2_with (first | ((with_reducible refine gate_dst (N := 10) rfl ?_); (try (refine gate_guard (by rfl) ?_; dsimp only)); refine boxA 10 #[.int .i64 0, .int .i64 0, .int .i64 0] 36 ?_; intro cb hg k6 hbox hb; have C2 := ak hbox; have y2 := leA (w := w) hg; have Y2 := leA (w := w) hg; have i2 := neL hg C0; have i3 := neG hg C0; have i4 := neL hg C1; have i5 := neG hg C1; replace f7 := ak (Kd.R_below (rF f7) hb); replace C0 := bB C0 hb; replace C1 := bB C1 hb; replace HB := bS hb; clear hb hbox hg; have I4 := i3.out; have j8 := i2.out; have I5 := i5.out; have j9 := i4.out; obtain ⟨_, _, _, _, _, _⟩ := cel3 C2; have I6 := i1.out; have ja := i0.out; obtain ⟨_, _, _, _, _, _⟩ := cel3 C1; obtain ⟨F1, l7, L1⟩ := Kd.R_slice f7.out; subst L1) | ((with_reducible refine gate_callee (f := 71) rfl ?_); refine goB 46 Try.func71 #[.agg #[.int .i64 z1, .int .i64 z2, .int .i64 z3], .slice F1 W1.length l7, .agg #[.int .i64 ((rd_T36 l0_2 W2).f0), .int .i64 ((rd_T36 l0_2 W2).f1), .int .i64 ((rd_T36 l0_2 W2).f2)]] rfl ?_; (with_reducible refine (impl_field_runStep.calls k2 z1 z2 z3 _ _ W1 ((rd_T36 l0_2 W2).f0) ((rd_T36 l0_2 W2).f1) ((rd_T36 l0_2 W2).f2) z6 _ ?side1 ?side2 Z6.out).mono ?_); (case side1 => refine (Kd.R_reads' (e := 3) (base := w.heap.size) (ok := fun k_ => (w.heap.size ≤ k_)) (n := W1.length) (c := l7) ?_).2.2; exact (rG f7 C2)); (case side2 => exact (Kd.R_reads' f7.out).2.1); rintro e k7 ⟨d4, rfl, D1, hb⟩; refine ⟨_, rfl, ?_⟩; have f8 := ak (Kd.R_lower (Kd.R_new' (Kd.R_newM (M := fun k_ => (w.heap.size ≤ k_)) D1 (below_size belA) (fun k_ h_ => h_)) (Kd.R_lt (rG f7 C2))) (below_size belA)); replace f7 := ak (Kd.R_elder' (rG f7 C2) (Kd.R_base D1) hb); replace C0 := ak (blk_below (g := c0) (o := .cells #[.int .i64 a0_0, .int .i64 a0_1, .slice (some a5) l0_2.length c0_2] 26 (0, 0)) xq27 hb); replace C1 := ak (blk_below (g := ca) (o := .cells #[.int .i64 z1, .int .i64 z2, .int .i64 z3] 95 (0, 0)) xq47 hb); replace C2 := ak (blk_below (g := cb) (o := .cells #[.int .i64 ((rd_T36 l0_2 W2).f0), .int .i64 ((rd_T36 l0_2 W2).f1), .int .i64 ((rd_T36 l0_2 W2).f2)] 36 (0, 0)) (by (with_reducible repeat (first | refine blk_drewN ?_ _ | refine blk_drew ?_ | refine blk_alloc ?_ _)); refine blk_put (cs := #[.int .i64 ((rd_T36 l0_2 W2).f0), .int .i64 ((rd_T36 l0_2 W2).f1), .int .i64 0]) ?_ 2 _ rfl; (with_reducible repeat (first | refine blk_drewN ?_ _ | refine blk_drew ?_ | refine blk_alloc ?_ _)); refine blk_put (cs := #[.int .i64 ((rd_T36 l0_2 W2).f0), .int .i64 0, .int .i64 0]) ?_ 1 _ rfl; (with_reducible repeat (first | refine blk_drewN ?_ _ | refine blk_drew ?_ | refine blk_alloc ?_ _)); refine blk_put (cs := #[.int .i64 0, .int .i64 0, .int .i64 0]) ?_ 0 _ rfl; (with_reducible repeat (first | refine blk_drewN ?_ _ | refine blk_drew ?_ | refine blk_alloc ?_ _)); exact C2.out) hb); replace HB := bS hb; (try clear hb D1)))
     go_roundg k2
     case measure => have := t0.out; have := n0.out; omega
     case rel => exact ⟨(z6), (wrap64 (W2 + 1)), eqA, H', ⟨xq26⟩, ⟨rE (Kd.R_mono f8.out (fun _ hk => hk.1.1))⟩, ⟨blkA⟩, ⟨blkA⟩, ⟨belA⟩⟩

def laws_cpPlan.l0 : Nat → Int → Int → Int → List (S36) → Int → Int → List (S36) → Option (Int × Int × (List (S36)))
 | 0, _, _, _, _, _, _, _ => none
 | k + 1, x4, x398000, x398001, x398002, x400000, x400001, x400002 => if x4 < (x398002.length : Int) then (if 0 ≤ x4 then (if x400002.length < 5864062014805 then (laws_cpPlan.l0 k (wrap64 (x4 + 1)) x398000 x398001 x398002 x400000 x400001 (x400002 ++ [(⟨(rd_T36 x398002 x4).f0, (rd_T36 x398002 x4).f1, (rd_T36 x398002 x4).f2⟩ : S36)])) else (none)) else (none)) else (some (x400000, x400001, x400002))
def laws_cpPlan.f (k : Nat) (a0_0 : Int) (a0_1 : Int) (l0_2 : List (S36)) : Option (Int × Int × (List (S36))) := laws_cpPlan.l0 k 0 a0_0 a0_1 l0_2 a0_0 a0_1 ([] : List (S36))
theorem laws_cpPlan.mono_l : ∀ k, (∀ y0 y1 y2 y3 y4 y5 y6, LeO (laws_cpPlan.l0 k y0 y1 y2 y3 y4 y5 y6) (laws_cpPlan.l0 (k + 1) y0 y1 y2 y3 y4 y5 y6))
 | 0 => fun _ _ _ _ _ _ _ r h => by simp [laws_cpPlan.l0] at h
 | k + 1 => by
  have ih0 := laws_cpPlan.mono_l k
  · intro y0 y1 y2 y3 y4 y5 y6; unfold laws_cpPlan.l0; exact xq86
theorem laws_cpPlan.mono : ∀ a0 a1 a2 k, LeO (laws_cpPlan.f k a0 a1 a2) (laws_cpPlan.f (k + 1) a0 a1 a2) := by
 intro a0 a1 a2 k; have b0 := laws_cpPlan.mono_l k
 unfold laws_cpPlan.f
 exact xq87
def laws_cpPlan.T5 : Bool × List (List Nat × List Nat) := (true, [([], []), ([0], [0]), ([], []), ([2], [2]), ([], []), ([3, 4], [3, 4]), ([5], [5]), ([6], [6]), ([1, 7], [1, 7]), ([0, 1, 2, 3, 4, 5, 6, 7, 8], []), ([9, 8, 8, 0, 1, 2, 3, 4, 5, 6, 7, 8], [8, 9])])
def laws_cpPlan.B5 : List Nat := [0, 1, 0, 4, 0, 28, 60, 124, 255, 511, 1023]
theorem laws_cpPlan.tab5 : rtab .any (opsOf Try.f18 5) = laws_cpPlan.T5 := by kernel_rfl
theorem laws_cpPlan.bits5 : waitsOk laws_cpPlan.T5.2 laws_cpPlan.B5 = true := by kernel_rfl
theorem laws_cpPlan.calls (k : Nat) (a0_0 : Int) (a0_1 : Int) (A0_2 : Option Addr) (c0_2 : Nat) (l0_2 : List (S36)) (r1 : Int) (r2 : Int) (r3 : List (S36)) (w : World) (hr0_2 : Kd.C k36 w A0_2 l0_2.length l0_2) (hc0_2 : l0_2.length ≤ c0_2) (h : laws_cpPlan.f k a0_0 a0_1 l0_2 = some (r1, r2, r3)) :
 Calls Try.prog 18 #[.agg #[.int .i64 a0_0, .int .i64 a0_1, .slice A0_2 l0_2.length c0_2]] w fun e w' => ∃ v2_ : Value, e = .returned (.agg #[.int .i64 r1, .int .i64 r2, v2_]) ∧ Kd.R k36 36 w' w.heap.size (fun _ => True) v2_ r3 ∧ Below w.heap.size w w' := by
 have B0 := Try.underlying26; have B2 := Try.underlying36; have g0 := ak hr0_2; have x0 := ak hc0_2; clear hr0_2 hc0_2; have HB := ak (Below.refl w.heap.size w); have H : (laws_cpPlan.l0 k 0 a0_0 a0_1 l0_2 a0_0 a0_1 ([] : List (S36))) = some (r1, r2, r3) := h; clear h; have H' := ak H; clear H; go_enter Try.func18, Try.ntmps18
 go_wp2_with (first | ((with_reducible refine gate_dst (N := 1) rfl ?_); refine boxA 1 #[.int .i64 a0_0, .int .i64 a0_1, .slice A0_2 l0_2.length c0_2] 26 ?_; intro c0 hg w2 hbox hb; have C0 := ak hbox; have y0 := leA (w := w) hg; have Y0 := leA (w := w) hg; replace HB := bS hb; clear hb hbox hg) | ((with_reducible refine gate_dst (N := 2) rfl ?_); refine boxA 2 #[.int .i64 0, .int .i64 0, .slice none 0 0] 26 ?_; intro c1 hg w3 hbox hb; have C1 := ak hbox; have y1 := leA (w := w) hg; have Y1 := leA (w := w) hg; have i0 := neL hg C0; have i1 := neG hg C0; replace C0 := bB C0 hb; replace HB := bS hb; clear hb hbox hg; have I0 := i0.out; have j3 := i1.out; obtain ⟨_, _, _, _, _, _⟩ := cel3 C0) | ((with_reducible refine gate_dst (N := 3) rfl ?_); refine boxA 3 #[.int .i64 0, .int .i64 0, .slice none 0 0] 26 ?_; intro ca hg w6 hbox hb; have C2 := ak hbox; have y2 := leA (w := w) hg; have Y2 := leA (w := w) hg; have i2 := neL hg C0; have i3 := neG hg C0; have i4 := neL hg C1; have i5 := neG hg C1; replace C0 := bB C0 hb; replace C1 := bB C1 hb; replace HB := bS hb; clear hb hbox hg; have I1 := i3.out; have j5 := i2.out; have I2 := i5.out; have j6 := i4.out; obtain ⟨_, _, _, _, _, _⟩ := cel3 C2))
 go_loopg [4] k (fun kq v4 w' => ∃ (W0 : Int) (W1 : List (S36)) (u400002 : Value), v4 = .int .i64 W0 ∧ Aside0 (laws_cpPlan.l0 kq W0 a0_0 a0_1 l0_2 a0_0 a0_1 W1 = some (r1, r2, r3)) ∧ Aside0 (kq ≤ k) ∧ Aside0 (Kd.R k36 36 w' w.heap.size (fun _ => True) u400002 W1) ∧ Aside0 (w'.heap[c0]? = some (.cells #[.int .i64 a0_0, .int .i64 a0_1, (.slice A0_2 l0_2.length c0_2)] 26 (0, 0))) ∧ Aside0 (w'.heap[c1]? = some (.cells #[.int .i64 0, .int .i64 0, (.slice none 0 0)] 26 (0, 0))) ∧ Aside0 (w'.heap[ca]? = some (.cells #[.int .i64 a0_0, .int .i64 a0_1, u400002] 26 (0, 0))) ∧ Aside0 (Below w.heap.size w w'))
 case atStart => exact ⟨(0), (([] : List (S36))), (.slice none 0 0), eqA, H', ⟨Nat.le_refl _⟩, ⟨xq13⟩, ⟨xq27⟩, ⟨xq47⟩, ⟨xq88⟩, ⟨belA⟩⟩
 case round =>
  clear H'; obtain ⟨W0, W1, u400002, rfl, HA, n0, f3, C0, C1, C2, HB⟩ := hrel
  cases gk with
  | zero => exact absurd HA.out (by simp [laws_cpPlan.l0])
  | succ k1 =>
   have H := HA.out; clear HA; simp only [laws_cpPlan.l0] at H
   by_cases c10 : W0 < (l0_2.length : Int); rotate_left
   · rw [if_neg c10] at H; have N0 := decide_eq_false c10; clear c10; simp only [Option.some.injEq, Prod.mk.injEq] at H; obtain ⟨rfl, rfl, rfl⟩ := H; have I3 := i0.out; have j7 := i1.out; have I4 := i2.out; have j8 := i3.out; obtain ⟨_, _, _, _, _, _⟩ := cel3 C0; have I5 := i5.out; have j9 := i4.out; obtain ⟨_, _, _, _, _, _⟩ := cel3 C2; obtain ⟨_, _, _, _, _, _⟩ := cel3 C1; obtain ⟨F0, l6, L0⟩ := Kd.R_slice f3.out; subst L0; go_wp2
     refine bodyPost_ret (results_cell_row rfl _ _ c1 26 #[.int .i64 a0_0, .int .i64 a0_1, .slice F0 W1.length l6] (0, 0) _ rfl xq48 Try.underlying26 rfl (by kernel_rfl)) rfl ?_
     exact ⟨_, xq1, by (with_reducible repeat (first | apply Kd.R_alloc | apply Kd.R_drewN | apply Kd.R_drew)); exact Kd.R_mono (Kd.R_far (p := ⟨c1, 2, none⟩) (Kd.R_far (p := ⟨c1, 1, none⟩) (Kd.R_far (p := ⟨c1, 0, none⟩) (Kd.R_types f3.out C1.out (by decide)) (fun _ hk => hk.2) (.int .i64 a0_0)) (fun _ hk => hk.2) (.int .i64 a0_1)) (fun _ hk => hk.2) (.slice F0 W1.length l6)) (fun _ hk => trivial), belA⟩
   rw [if_pos c10] at H; have N0 := decide_eq_true c10; clear c10
   by_cases N1 : 0 ≤ W0; rotate_left
   · rw [if_neg N1] at H; exact absurd H (by simp)
   rw [if_pos N1] at H; have N2 := decide_eq_true N1; clear N1
   by_cases N3 : W1.length < 5864062014805; rotate_left
   · rw [if_neg N3] at H; exact absurd H (by simp)
   rw [if_pos N3] at H; have cb := ak N3; clear N3; obtain ⟨K0, hyq⟩ : ∃ y_ : List (S36), y_ = (W1 ++ [(⟨(rd_T36 l0_2 W0).f0, (rd_T36 l0_2 W0).f1, (rd_T36 l0_2 W0).f2⟩ : S36)]) := ⟨_, rfl⟩; replace H : (laws_cpPlan.l0 k1 (wrap64 (W0 + 1)) a0_0 a0_1 l0_2 a0_0 a0_1 K0) = some (r1, r2, r3) := by first | (rw [hyq]; with_reducible exact H) | (have e0 := (Option.bind_some _ _).symm.trans H; rw [hyq]; with_reducible exact e0) | (have e0 := (Option.bind_some _ _).symm.trans H; with_reducible exact e0) | with_reducible exact H | (rw [hyq]; exact H) | exact H
   have E0 := ak hyq; clear hyq; have H' := ak H; clear H; have I6 := i0.out; have ja := i1.out; have I7 := i2.out; have jb := i3.out; obtain ⟨_, _, _, _, _, _⟩ := cel3 C0; try go_wp2
   replace f3 := ak (Kd.R_drew f3.out); replace C0 := ak (blk_drew C0.out); replace C1 := ak (blk_drew C1.out); replace C2 := ak (blk_drew C2.out); replace HB := ak (below_drew1 HB.out); have v0 : 0 ≤ (W0 : Int) := odA; have V0 : W0 < (l0_2.length : Int) := odA; obtain ⟨a5, A0, o0, o1, o2⟩ := at_T36 g0.out W0 v0 V0; have h0 := o2; have h1 := o1; have h2 := o0
   cases A0
   try replace o0 := cB HB o0
   try replace o1 := cB HB o1
   try replace o2 := cB HB o2
   replace v0 := eq_true v0; replace V0 := eq_true V0; refine start_ (n := 11) (S := fun w' => w'.cell? ⟨ca, 0, none⟩ = some (.int .i64 a0_0) ∧ w'.cell? ⟨ca, 1, none⟩ = some (.int .i64 a0_1) ∧ w'.cell? ⟨ca, 2, none⟩ = some (u400002) ∧ w'.cell? ⟨c0, 0, none⟩ = some (.int .i64 a0_0) ∧ w'.cell? ⟨c0, 1, none⟩ = some (.int .i64 a0_1) ∧ w'.cell? ⟨c0, 2, none⟩ = some (.slice (some a5) l0_2.length c0_2) ∧ w'.cell? (a5.add ((W0).toNat * 3)) = some (.int .i64 ((rd_T36 l0_2 W0).f0)) ∧ w'.cell? ⟨(a5.add ((W0).toNat * 3)).block, (a5.add ((W0).toNat * 3)).off + 1, none⟩ = some (.int .i64 ((rd_T36 l0_2 W0).f1)) ∧ w'.cell? ⟨(a5.add ((W0).toNat * 3)).block, (a5.add ((W0).toNat * 3)).off + 2, none⟩ = some (.int .i64 ((rd_T36 l0_2 W0).f2))) (ds := [10]) _ (by kernel_rfl) rfl rfl ⟨bc C2 0, bc C2 1, bc C2 2, bc C0 0, bc C0 1, bc C0 2, (cB HB h2), (cB HB h1), (cB HB h0)⟩ (fun hHeld => ?_); refine with_tabW laws_cpPlan.tab5 laws_cpPlan.bits5 (fun HT_ HW_ => ?_)
   generalize wr.drew = k0 at f3 C0 C1 C2 HB o0 o1 o2 hHeld ⊢
   refine pR 0 17 (ba 11 1) ?_; refine pR 2 19 (ba 11 5) ?_; refine pR 4 21 (ba 11 21) ?_; refine tR9 1 18 (ba 11 23) ?_; refine tR9 3 20 (ba 11 31) ?_; refine pR 5 22 (ba 11 63) ?_; refine tR9 6 23 (ba 11 127) ?_
   refine one_ (i := 7) (N := some 24) (ba 11 255) rfl rfl (one_of HT_.out (by kernel_rfl)) (by decide) (fun K hK => ?_)
   refine value_ (w1 := ?_) (v := ?_) (by rfl) rfl ?_ ?_
   rotate_left 2
   · go_simp
     constructor
     · rfl
     · rfl
   refine hK.out _ _ ⟨(blk_cell (blk_alloc C2.out _) 0).trans rfl, (blk_cell (blk_alloc C2.out _) 1).trans rfl, (blk_cell (blk_alloc C2.out _) 2).trans rfl, (blk_cell (blk_alloc C0.out _) 0).trans rfl, (blk_cell (blk_alloc C0.out _) 1).trans rfl, (blk_cell (blk_alloc C0.out _) 2).trans rfl, (World.cell?_alloc_lt _ _ _ (World.block_lt_of_cell? _ _ ((cB HB h2)))).trans ((cB HB h2)), (World.cell?_alloc_lt _ _ _ (World.block_lt_of_cell? _ _ ((cB HB h1)))).trans ((cB HB h1)), (World.cell?_alloc_lt _ _ _ (World.block_lt_of_cell? _ _ ((cB HB h0)))).trans ((cB HB h0))⟩ (fun hHeld => ?_)
   clear hK K; refine nR 24 ?_
   refine one_ (i := 8) (N := some 25) (ba 11 511) rfl rfl (one_of HT_.out (by kernel_rfl)) (by decide) (fun K hK => ?_)
   refine Kd.R_append_step k36 (w0 := w) w.heap.size (by rfl) (.tmp 18) (.tmp 24) 24 36 (.agg #[(.int .i64 0), (.int .i64 0), (.int .i64 0)]) 24 rfl Try.underlying24 info36 rfl (by decide) (by omega) u400002 W1 (⟨(rd_T36 l0_2 W0).f0, (rd_T36 l0_2 W0).f1, (rd_T36 l0_2 W0).f2⟩ : S36) [.int .i64 ((rd_T36 l0_2 W0).f0), .int .i64 ((rd_T36 l0_2 W0).f1), .int .i64 ((rd_T36 l0_2 W0).f2)] (fun _ => True) (fun _ => False) rfl rfl ?aP (fun _ hk => hk.elim) ?aF ?aO ?aB ?aS ?aL ?_
   (case aP => exact k36_mkM _ _ _ (⟨(rd_T36 l0_2 W0).f0, (rd_T36 l0_2 W0).f1, (rd_T36 l0_2 W0).f2⟩ : S36))
   (case aB => exact belA)
   (case aF => exact (fun _ _ => trivial))
   (case aO => exact (rF f3))
   (case aS => exact (below_size belA))
   (case aL => have := cb.out; omega)
   intro d0 k2 ho hb hg hat; rw [← E0.out] at ho; have x1 := ak (blk_grown (g := c0) (o := .cells #[.int .i64 a0_0, .int .i64 a0_1, .slice (some a5) l0_2.length c0_2] 26 (0, 0)) blkA hg (Kd.R_ne f3.out C0.out (by decide))); have x2 := ak (blk_grown (g := c1) (o := .cells #[.int .i64 0, .int .i64 0, .slice none 0 0] 26 (0, 0)) blkA hg (Kd.R_ne f3.out C1.out (by decide))); have x3 := ak (blk_grown (g := ca) (o := .cells #[.int .i64 a0_0, .int .i64 a0_1, u400002] 26 (0, 0)) blkA hg (Kd.R_ne f3.out C2.out (by decide))); have x4 := ak hb; have x5 := ak ho; clear C0; clear C1; clear C2; clear HB; clear f3; have C0 := x1; have C1 := x2; have C2 := x3; have HB := x4; have f4 := x5; clear x1 x2 x3 x4 x5; clear ho hb hg hat; obtain ⟨F1, l7, L1⟩ := Kd.R_slice f4.out; (first | subst L1 | (injection L1 with C3 C4 C5; have C6 := C3.symm; have C7 := C5.symm; clear C3 C4 C5; subst C6; subst C7))
   refine hK.out _ _ ⟨bc C2 0, bc C2 1, bc C2 2, bc C0 0, bc C0 1, bc C0 2, (cB HB h2), (cB HB h1), (cB HB h0)⟩ (fun hHeld => ?_)
   clear hK K; refine nR 25 ?_; refine pR 9 26 (ba 11 1023) ?_
   refine last_ (i := 10) (N := none) (ba 11 2047) rfl rfl (one_of HT_.out (by kernel_rfl)) (by decide) (fun K hK => ?_)
   have y3 : k2.cell? ⟨ca, 2, none⟩ = some (u400002) := bc C2 2; have Y3 := blk_frozen C2.out 2; have v1 := i2.out; have v2 := i4.out; have V1 := i3.out; have V2 := i5.out; refine skip_ (w1 := ?_) (by rfl) rfl ?_ ?_
   rotate_left
   · go_simp
     rfl
   refine hK.out _ _ ?_
   clear hK K; refine done_ (done_of HT_.out (by kernel_rfl)) ?_
   try go_wp2
   go_roundg k1
   case measure => have := n0.out; omega
   case rel => exact ⟨(wrap64 (W0 + 1)), (K0), (.slice F1 K0.length l7), eqA, H', ⟨xq16⟩, ⟨rE (Kd.R_mono (Kd.R_far (p := ⟨ca, 2, none⟩) (Kd.R_types f4.out C2.out (by decide)) (fun _ hk => hk.2) (.slice F1 K0.length l7)) (fun _ hk => trivial))⟩, ⟨xq35⟩, ⟨xq46⟩, ⟨by (with_reducible repeat (first | refine blk_drewN ?_ _ | refine blk_drew ?_ | refine blk_alloc ?_ _)); refine blk_put (cs := #[.int .i64 a0_0, .int .i64 a0_1, u400002]) ?_ 2 _ rfl; (with_reducible repeat (first | refine blk_drewN ?_ _ | refine blk_drew ?_ | refine blk_alloc ?_ _)); exact C2.out⟩, ⟨belA⟩⟩

def laws_same.l0 : Nat → List Int → List Int → Int → Option (Bool)
 | 0, _, _, _ => none
 | k + 1, x0, x1, x5 => if x5 < (x0.length : Int) then (if 0 ≤ x5 then (if x5 < (x1.length : Int) then (if (rd x0 x5) = (rd x1 x5) then (laws_same.l0 k x0 x1 (wrap64 (x5 + 1))) else (some false)) else (none)) else (none)) else (some true)
def laws_same.f (k : Nat) (l0 : List Int) (l1 : List Int) : Option (Bool) := if (l0.length : Int) = (l1.length : Int) then (laws_same.l0 k l0 l1 0) else (some false)
theorem laws_same.mono_l : ∀ k, (∀ y0 y1 y2, LeO (laws_same.l0 k y0 y1 y2) (laws_same.l0 (k + 1) y0 y1 y2))
 | 0 => fun _ _ _ r h => by simp [laws_same.l0] at h
 | k + 1 => by
  have ih0 := laws_same.mono_l k
  · intro y0 y1 y2; unfold laws_same.l0; exact xq33
theorem laws_same.mono : ∀ a0 a1 k, LeO (laws_same.f k a0 a1) (laws_same.f (k + 1) a0 a1) := by
 intro a0 a1 k; have b0 := laws_same.mono_l k
 unfold laws_same.f
 exact xq34
theorem laws_same.calls (k : Nat) (A0 : Option Addr) (c0 : Nat) (l0 : List Int) (A1 : Option Addr) (c1 : Nat) (l1 : List Int) (r : Bool) (w : World) (hr0 : Kd.C (Kd.int .i64) w A0 l0.length l0) (hc0 : l0.length ≤ c0) (hr1 : Kd.C (Kd.int .i64) w A1 l1.length l1) (hc1 : l1.length ≤ c1) (h : laws_same.f k l0 l1 = some r) :
 Calls Try.prog 19 #[.slice A0 l0.length c0, .slice A1 l1.length c1] w fun e w' => e = .returned (.bool r) ∧ Drawn0 w w' := by
 have g0 := ak hr0; have x0 := ak hc0; clear hr0 hc0; have g1 := ak hr1; have x1 := ak hc1; clear hr1 hc1; have H : (if (l0.length : Int) = (l1.length : Int) then (laws_same.l0 k l0 l1 0) else (some false)) = some r := h; clear h
 by_cases c3 : (l0.length : Int) = (l1.length : Int); rotate_left
 · rw [if_neg c3] at H; have N0 : ((l0.length : Int) == (l1.length : Int)) = false := beq_eq_false_iff_ne.mpr c3; have N1 : ((l0.length : Int) != (l1.length : Int)) = true := bne_iff_ne.mpr c3; have N2 : (l0.length == l1.length) = false := by first | simpa using c3 | (simp at c3 ⊢; omega)
   obtain rfl := Option.some.inj H; go_enter Try.func19, Try.ntmps19
   go_wp2
   repeat (go_quiet (fail); try go_wp2)
   go_ret
   exact ⟨xq7, xq3⟩
 rw [if_pos c3] at H; have N0 : ((l0.length : Int) == (l1.length : Int)) = true := beq_iff_eq.mpr c3; have N1 : ((l0.length : Int) != (l1.length : Int)) = false := bne_eq_false_iff_eq.mpr c3; have N2 : (l0.length == l1.length) = true := by first | simpa using c3 | (simp at c3 ⊢; omega)
 clear c3; have H' := ak H; clear H; go_enter Try.func19, Try.ntmps19
 go_wp2
 repeat (go_quiet (fail); try go_wp2)
 go_loopg [5] k (fun kq v5 w' => ∃ (W0 : Int), v5 = .int .i64 W0 ∧ Aside0 (laws_same.l0 kq l0 l1 W0 = some r) ∧ Aside0 (kq ≤ k) ∧ Drawn0 w w')
 case atStart => exact ⟨(0), eqA, H', ⟨Nat.le_refl _⟩, xq3⟩
 case round =>
  clear H'; obtain ⟨W0, rfl, HA, n0, ⟨m1, rfl⟩⟩ := hrel
  cases gk with
  | zero => exact absurd HA.out (by simp [laws_same.l0])
  | succ k1 =>
   have H := HA.out; clear HA; simp only [laws_same.l0] at H
   by_cases c4 : W0 < (l0.length : Int); rotate_left
   · rw [if_neg c4] at H; have N3 := decide_eq_false c4; clear c4; obtain rfl := Option.some.inj H; go_wp2
     repeat (go_quiet (fail); try go_wp2)
     go_ret
     exact ⟨xq7, xq3⟩
   rw [if_pos c4] at H; have N3 := decide_eq_true c4; clear c4
   by_cases c5 : 0 ≤ W0; rotate_left
   · rw [if_neg c5] at H; exact absurd H (by simp)
   rw [if_pos c5] at H; have N4 := decide_eq_true c5; clear c5
   by_cases c6 : W0 < (l1.length : Int); rotate_left
   · rw [if_neg c6] at H; exact absurd H (by simp)
   rw [if_pos c6] at H; have N5 := decide_eq_true c6; clear c6
   by_cases c7 : (rd l0 W0) = (rd l1 W0); rotate_left
   · rw [if_neg c7] at H; have N6 : ((rd l0 W0) == (rd l1 W0)) = false := beq_eq_false_iff_ne.mpr c7; have N7 : ((rd l0 W0) != (rd l1 W0)) = true := bne_iff_ne.mpr c7; obtain rfl := Option.some.inj H; have v0 : 0 ≤ (W0 : Int) := odA; have V0 : W0 < (l0.length : Int) := odA; obtain ⟨a5, A2, o0⟩ := Kd.at_int g0.out W0 v0 V0
     cases A2
     replace v0 := eq_true v0; replace V0 := eq_true V0; have v1 : 0 ≤ (W0 : Int) := odA; have V1 : W0 < (l1.length : Int) := odA; obtain ⟨a6, A3, o1⟩ := Kd.at_int g1.out W0 v1 V1
     cases A3
     replace v1 := eq_true v1; replace V1 := eq_true V1; go_wp2
     repeat (go_quiet (fail); try go_wp2)
     go_ret
     exact ⟨xq7, xq3⟩
   rw [if_pos c7] at H; have N6 : ((rd l0 W0) == (rd l1 W0)) = true := beq_iff_eq.mpr c7; have N7 : ((rd l0 W0) != (rd l1 W0)) = false := bne_eq_false_iff_eq.mpr c7; clear c7; have H' := ak H; clear H; have v0 : 0 ≤ (W0 : Int) := odA; have V0 : W0 < (l0.length : Int) := odA; obtain ⟨a5, A2, o0⟩ := Kd.at_int g0.out W0 v0 V0
   cases A2
   replace v0 := eq_true v0; replace V0 := eq_true V0; have v1 : 0 ≤ (W0 : Int) := odA; have V1 : W0 < (l1.length : Int) := odA; obtain ⟨a6, A3, o1⟩ := Kd.at_int g1.out W0 v1 V1
   cases A3
   replace v1 := eq_true v1; replace V1 := eq_true V1; go_wp2
   repeat (go_quiet (fail); try go_wp2)
   go_roundg k1
   case measure => have := n0.out; omega
   case rel => exact ⟨(wrap64 (W0 + 1)), eqA, H', ⟨xq16⟩, xq3⟩

def laws_at.f (l0 : List Int) (a1 : Int) : Option (Int) := if a1 < (l0.length : Int) then (if 0 ≤ a1 then (some (wrap64 (rd l0 a1))) else (none)) else (some (Int.tmod (wrap64 ((wrap64 (a1 * 13)) + (wrap64 ((l0.length : Int) * 5)))) 256))
theorem laws_at.calls (A0 : Option Addr) (c0 : Nat) (l0 : List Int) (a1 : Int) (r : Int) (w : World) (hr0 : Kd.C (Kd.int .u8) w A0 l0.length l0) (hc0 : l0.length ≤ c0) (h : laws_at.f l0 a1 = some r) :
 Calls Try.prog 30 #[.slice A0 l0.length c0, .int .i64 a1] w fun e w' => e = .returned (.int .i64 r) ∧ Drawn0 w w' := by
 have g0 := ak hr0; have x0 := ak hc0; clear hr0 hc0; have H : (if a1 < (l0.length : Int) then (if 0 ≤ a1 then (some (wrap64 (rd l0 a1))) else (none)) else (some (Int.tmod (wrap64 ((wrap64 (a1 * 13)) + (wrap64 ((l0.length : Int) * 5)))) 256))) = some r := h; clear h
 by_cases c3 : a1 < (l0.length : Int); rotate_left
 · rw [if_neg c3] at H; have N0 := decide_eq_false c3; clear c3; obtain rfl := Option.some.inj H; go_enter Try.func30, Try.ntmps30
   go_wp2
   go_ret
   exact ⟨xq7, xq3⟩
 rw [if_pos c3] at H; have N0 := decide_eq_true c3; clear c3
 by_cases c4 : 0 ≤ a1; rotate_left
 · rw [if_neg c4] at H; exact absurd H (by simp)
 rw [if_pos c4] at H; have N1 := decide_eq_true c4; clear c4; obtain rfl := Option.some.inj H; have v0 : 0 ≤ (a1 : Int) := odA; have V0 : a1 < (l0.length : Int) := odA; obtain ⟨a5, A1, o0⟩ := Kd.at_int g0.out a1 v0 V0
 cases A1
 replace v0 := eq_true v0; replace V0 := eq_true V0; go_enter Try.func30, Try.ntmps30
 go_wp2
 go_ret
 exact ⟨xq7, xq3⟩

end Go.Proofs.Ytbojabmpcfclhaa.PFnPlanTurned

-- Written by a program of this session (the print of the kit with contracts of this session's own added)
import Derived.Test.YtbojabmpcfclhaaZFPTx5
set_option maxHeartbeats 8000000
set_option maxRecDepth 100000
namespace Go.Proofs.Ytbojabmpcfclhaa.PFnPlanTurned
open Go.RowKit Go.Proofs.YtbojabmpcfclhaaW.PrintWords Go.Proofs.YtbojabmpcfclhaaW.PrintLast Go.Proofs.YtbojabmpcfclhaaW.PrintMore Go.Proofs.YtbojabmpcfclhaaW.PrintPack Go.Proofs.YtbojabmpcfclhaaW.PrintPack
set_option linter.unusedVariables false
set_option linter.unusedSimpArgs false

def spec_l03Elements.l0 : Nat → List Int → Int → Int → Option (Bool)
 | 0, _, _, _ => none
 | k + 1, x1, x5, x6 => if x6 < (x1.length : Int) then (if 0 ≤ x6 then ((spec_l01In.f (rd x1 x6) 0 (wrap64 (x5 - 1))).bind fun t262 => (if t262 = true then (spec_l03Elements.l0 k x1 x5 (wrap64 (x6 + 1))) else (some false))) else (none)) else (some true)
def spec_l03Elements.f (k : Nat) (a0 : Int) (l1 : List Int) : Option (Bool) := (spec_Modulus.f a0).bind fun t260 => (if t260 = 0 then (some false) else (spec_l03Elements.l0 k l1 t260 0))
theorem spec_l03Elements.mono_l : ∀ k, (∀ y0 y1 y2, LeO (spec_l03Elements.l0 k y0 y1 y2) (spec_l03Elements.l0 (k + 1) y0 y1 y2))
 | 0 => fun _ _ _ r h => by simp [spec_l03Elements.l0] at h
 | k + 1 => by
  have ih0 := spec_l03Elements.mono_l k
  · intro y0 y1 y2; unfold spec_l03Elements.l0; exact xq33
theorem spec_l03Elements.mono : ∀ a0 a1 k, LeO (spec_l03Elements.f k a0 a1) (spec_l03Elements.f (k + 1) a0 a1) := by
 intro a0 a1 k; have b0 := spec_l03Elements.mono_l k
 unfold spec_l03Elements.f
 exact xq34
theorem spec_l03Elements.calls (k : Nat) (a0 : Int) (A1 : Option Addr) (c1 : Nat) (l1 : List Int) (r : Bool) (w : World) (hr1 : Kd.C (Kd.int .i64) w A1 l1.length l1) (hc1 : l1.length ≤ c1) (h : spec_l03Elements.f k a0 l1 = some r) :
 Calls Try.prog 116 #[.int .i64 a0, .slice A1 l1.length c1] w fun e w' => e = .returned (.bool r) ∧ Drawn0 w w' := by
 have g0 := ak hr1; have x0 := ak hc1; clear hr1 hc1; have H : ((spec_Modulus.f a0).bind fun z0 => (if z0 = 0 then (some false) else (spec_l03Elements.l0 k l1 z0 0))) = some r := h; clear h; replace H := Option.bind_eq_some_iff.mp H; obtain ⟨z0, Z0, H⟩ := H; (try dsimp only at H); have A3 := ak Z0; clear Z0
 by_cases c4 : z0 = 0
 · rw [if_pos c4] at H; have N0 : (z0 == 0) = true := beq_iff_eq.mpr c4; have N1 : (z0 != 0) = false := bne_eq_false_iff_eq.mpr c4; clear c4; obtain rfl := Option.some.inj H; go_enter Try.func116, Try.ntmps116
   go_wp2_with (first | ((with_reducible refine gate_callee (f := 117) rfl ?_); refine goB 8 Try.func117 #[.int .i64 a0] rfl ?_; (with_reducible refine (spec_Modulus.calls a0 z0 _ A3.out).mono ?_); rintro e w' ⟨rfl, ⟨nd, rfl⟩⟩; refine ⟨_, rfl, ?_⟩))
   go_ret
   exact ⟨xq7, xq3⟩
 rw [if_neg c4] at H; have N0 : (z0 == 0) = false := beq_eq_false_iff_ne.mpr c4; have N1 : (z0 != 0) = true := bne_iff_ne.mpr c4; have H' := ak H; clear H; go_enter Try.func116, Try.ntmps116
 go_wp2_with (first | ((with_reducible refine gate_callee (f := 117) rfl ?_); refine goB 8 Try.func117 #[.int .i64 a0] rfl ?_; (with_reducible refine (spec_Modulus.calls a0 z0 _ A3.out).mono ?_); rintro e w' ⟨rfl, ⟨nd, rfl⟩⟩; refine ⟨_, rfl, ?_⟩))
 go_loopg [6] k (fun kq v6 w' => ∃ (W0 : Int), v6 = .int .i64 W0 ∧ Aside0 (spec_l03Elements.l0 kq l1 z0 W0 = some r) ∧ Aside0 (kq ≤ k) ∧ Drawn0 w w')
 case atStart => exact ⟨(0), eqA, H', ⟨Nat.le_refl _⟩, xq3⟩
 case round =>
  clear H'; obtain ⟨W0, rfl, HA, n0, ⟨m1, rfl⟩⟩ := hrel
  cases gk with
  | zero => exact absurd HA.out (by simp [spec_l03Elements.l0])
  | succ k1 =>
   have H := HA.out; clear HA; simp only [spec_l03Elements.l0] at H
   by_cases c5 : W0 < (l1.length : Int); rotate_left
   · rw [if_neg c5] at H; have N2 := decide_eq_false c5; clear c5; obtain rfl := Option.some.inj H; go_wp2
     go_ret
     exact ⟨xq7, xq3⟩
   rw [if_pos c5] at H; have N2 := decide_eq_true c5; clear c5
   by_cases c6 : 0 ≤ W0; rotate_left
   · rw [if_neg c6] at H; exact absurd H (by simp)
   rw [if_pos c6] at H; have N3 := decide_eq_true c6; clear c6; replace H := Option.bind_eq_some_iff.mp H; obtain ⟨z1, Z1, H⟩ := H; (try dsimp only at H); have A7 := ak Z1; clear Z1
   by_cases c8 : z1 = true; rotate_left
   · replace c8 := Bool.eq_false_iff.mpr c8; subst c8; have H1 : (some false) = some r := by rw [if_neg (show ¬ (false = true) by decide)] at H; exact H
     clear H; have H := H1; clear H1; obtain rfl := Option.some.inj H; have v0 : 0 ≤ (W0 : Int) := odA; have V0 : W0 < (l1.length : Int) := odA; obtain ⟨a5, A0, o0⟩ := Kd.at_int g0.out W0 v0 V0
     cases A0
     replace v0 := eq_true v0; replace V0 := eq_true V0; go_wp2_with (first | ((with_reducible refine gate_callee (f := 60) rfl ?_); refine goB 23 Try.func60 #[.int .i64 (rd l1 W0), .int .i64 0, .int .i64 (wrap64 (z0 - 1))] rfl ?_; (with_reducible refine (spec_l01In.calls (rd l1 W0) 0 (wrap64 (z0 - 1)) false _ A7.out).mono ?_); rintro e w' ⟨rfl, ⟨nd, rfl⟩⟩; refine ⟨_, rfl, ?_⟩))
     go_ret
     exact ⟨xq7, xq3⟩
   subst c8; have H1 : (spec_l03Elements.l0 k1 l1 z0 (wrap64 (W0 + 1))) = some r := by rw [if_pos rfl] at H; exact H
   clear H; have H := H1; clear H1; have H' := ak H; clear H; have v0 : 0 ≤ (W0 : Int) := odA; have V0 : W0 < (l1.length : Int) := odA; obtain ⟨a5, A0, o0⟩ := Kd.at_int g0.out W0 v0 V0
   cases A0
   replace v0 := eq_true v0; replace V0 := eq_true V0; go_wp2_with (first | ((with_reducible refine gate_callee (f := 60) rfl ?_); refine goB 23 Try.func60 #[.int .i64 (rd l1 W0), .int .i64 0, .int .i64 (wrap64 (z0 - 1))] rfl ?_; (with_reducible refine (spec_l01In.calls (rd l1 W0) 0 (wrap64 (z0 - 1)) true _ A7.out).mono ?_); rintro e w' ⟨rfl, ⟨nd, rfl⟩⟩; refine ⟨_, rfl, ?_⟩))
   go_roundg k1
   case measure => have := n0.out; omega
   case rel => exact ⟨(wrap64 (W0 + 1)), eqA, H', ⟨xq16⟩, xq3⟩

def spec_VectorOk.f (k : Nat) (a0 : Int) (l1 : List Int) : Option (Bool) := (spec_LogOf.f k (l1.length : Int)).bind fun t263 => (if t263 ≥ 0 then ((spec_TwoPower.f k a0).bind fun t264 => (if t263 ≤ t264 then ((spec_l03Elements.f k a0 l1).bind fun t265 => (some t265)) else (some false))) else (some false))
theorem spec_VectorOk.mono : ∀ a0 a1 k, LeO (spec_VectorOk.f k a0 a1) (spec_VectorOk.f (k + 1) a0 a1) := by
 intro a0 a1 k
 unfold spec_VectorOk.f
 exact (by repeat' (with_reducible first | exact spec_LogOf.mono _ _ | exact spec_TwoPower.mono _ _ | exact spec_l03Elements.mono _ _ _ | exact LeO.refl _ | exact LeO.none _ | refine LeO.ite ?_ ?_ | refine LeO.bind ?_ (fun _ => ?_)))
theorem spec_VectorOk.calls (k : Nat) (a0 : Int) (A1 : Option Addr) (c1 : Nat) (l1 : List Int) (r : Bool) (w : World) (hr1 : Kd.C (Kd.int .i64) w A1 l1.length l1) (hc1 : l1.length ≤ c1) (h : spec_VectorOk.f k a0 l1 = some r) :
 Calls Try.prog 63 #[.int .i64 a0, .slice A1 l1.length c1] w fun e w' => e = .returned (.bool r) ∧ Drawn0 w w' := by
 have g0 := ak hr1; have x0 := ak hc1; clear hr1 hc1; have H : ((spec_LogOf.f k (l1.length : Int)).bind fun z0 => (if z0 ≥ 0 then ((spec_TwoPower.f k a0).bind fun z1 => (if z0 ≤ z1 then ((spec_l03Elements.f k a0 l1).bind fun z2 => (some z2)) else (some false))) else (some false))) = some r := h; clear h; replace H := Option.bind_eq_some_iff.mp H; obtain ⟨z0, Z0, H⟩ := H; (try dsimp only at H); have A3 := ak Z0; clear Z0
 by_cases c4 : z0 ≥ 0; rotate_left
 · rw [if_neg c4] at H; have N0 : decide (0 ≤ z0) = false := decide_eq_false c4; clear c4; obtain rfl := Option.some.inj H; go_enter Try.func63, Try.ntmps63
   go_wp2_with (first | ((with_reducible refine gate_callee (f := 66) rfl ?_); refine goB 8 Try.func66 #[.int .i64 (l1.length : Int)] rfl ?_; (with_reducible refine (spec_LogOf.calls k (l1.length : Int) z0 _ A3.out).mono ?_); rintro e w' ⟨rfl, ⟨nd, rfl⟩⟩; refine ⟨_, rfl, ?_⟩))
   go_ret
   exact ⟨xq7, xq3⟩
 rw [if_pos c4] at H; have N0 : decide (0 ≤ z0) = true := decide_eq_true c4; clear c4; replace H := Option.bind_eq_some_iff.mp H; obtain ⟨z1, Z1, H⟩ := H; (try dsimp only at H); have A5 := ak Z1; clear Z1
 by_cases c6 : z0 ≤ z1; rotate_left
 · rw [if_neg c6] at H; have N1 := decide_eq_false c6; clear c6; obtain rfl := Option.some.inj H; go_enter Try.func63, Try.ntmps63
   go_wp2_with (first | ((with_reducible refine gate_callee (f := 66) rfl ?_); refine goB 8 Try.func66 #[.int .i64 (l1.length : Int)] rfl ?_; (with_reducible refine (spec_LogOf.calls k (l1.length : Int) z0 _ A3.out).mono ?_); rintro e w' ⟨rfl, ⟨nd, rfl⟩⟩; refine ⟨_, rfl, ?_⟩) | (go_at_call 112; (with_reducible refine (spec_TwoPower.calls k a0 z1 _ A5.out).mono ?_); rintro e w' ⟨rfl, ⟨nd, rfl⟩⟩))
   go_ret
   exact ⟨xq7, xq3⟩
 rw [if_pos c6] at H; have N1 := decide_eq_true c6; clear c6; replace H := Option.bind_eq_some_iff.mp H; obtain ⟨z2, Z2, H⟩ := H; (try dsimp only at H); have A7 := ak Z2; clear Z2; obtain rfl := Option.some.inj H; go_enter Try.func63, Try.ntmps63
 go_wp2_with (first | ((with_reducible refine gate_callee (f := 66) rfl ?_); refine goB 8 Try.func66 #[.int .i64 (l1.length : Int)] rfl ?_; (with_reducible refine (spec_LogOf.calls k (l1.length : Int) z0 _ A3.out).mono ?_); rintro e w' ⟨rfl, ⟨nd, rfl⟩⟩; refine ⟨_, rfl, ?_⟩) | (go_at_call 112; (with_reducible refine (spec_TwoPower.calls k a0 z1 _ A5.out).mono ?_); rintro e w' ⟨rfl, ⟨nd, rfl⟩⟩) | (go_at_call 116; (with_reducible refine (spec_l03Elements.calls k a0 _ _ l1 z2 _ ?side1 ?side2 A7.out).mono ?_); (case side1 => exact cA g0.out); (case side2 => exact x0.out); rintro e w' ⟨rfl, ⟨nd, rfl⟩⟩))
 go_ret
 exact ⟨xq7, xq3⟩

mutual
def spec_l04Sum.l0 : Nat → List Int → Int → Int → Int → List Int → Int → Int → Option (List Int)
 | 0, _, _, _, _, _, _, _ => none
 | k + 1, x1, x2, x7, x8, x9, x10, x11 => if x11 < x8 then (if x9.length < 17592186044416 then (if x7 = 0 then (none) else (spec_l04Sum.l0 k x1 x2 x7 x8 (x9 ++ [x10]) (Int.tmod (wrap64 (x10 * x2)) x7) (wrap64 (x11 + 1)))) else (none)) else (spec_l04Sum.l1 k x1 x7 x8 x9 (([] : List Int)) 0)
def spec_l04Sum.l1 : Nat → List Int → Int → Int → List Int → List Int → Int → Option (List Int)
 | 0, _, _, _, _, _, _ => none
 | k + 1, x1, x7, x8, x9, x12, x13 => if x13 < x8 then (spec_l04Sum.l2 k x1 x7 x8 x9 x12 x13 0 0) else (some x12)
def spec_l04Sum.l2 : Nat → List Int → Int → Int → List Int → List Int → Int → Int → Int → Option (List Int)
 | 0, _, _, _, _, _, _, _, _ => none
 | k + 1, x1, x7, x8, x9, x12, x13, x14, x15 => if x15 < x8 then (if 0 ≤ x15 then (if x15 < (x1.length : Int) then (if x8 = 0 then (none) else (if 0 ≤ (Int.tmod (wrap64 (x13 * x15)) x8) then (if (Int.tmod (wrap64 (x13 * x15)) x8) < (x9.length : Int) then (if x7 = 0 then (none) else (spec_l04Sum.l2 k x1 x7 x8 x9 x12 x13 (Int.tmod (wrap64 (x14 + (wrap64 ((rd x1 x15) * (rd x9 (Int.tmod (wrap64 (x13 * x15)) x8)))))) x7) (wrap64 (x15 + 1)))) else (none)) else (none))) else (none)) else (none)) else (if x12.length < 17592186044416 then (spec_l04Sum.l1 k x1 x7 x8 x9 (x12 ++ [x14]) (wrap64 (x13 + 1))) else (none))
end
def spec_l04Sum.f (k : Nat) (a0 : Int) (l1 : List Int) (a2 : Int) : Option (List Int) := (spec_Modulus.f a0).bind fun t266 => (spec_l04Sum.l0 k l1 a2 t266 (l1.length : Int) (([] : List Int)) 1 0)
theorem spec_l04Sum.mono_l : ∀ k, (∀ y0 y1 y2 y3 y4 y5 y6, LeO (spec_l04Sum.l0 k y0 y1 y2 y3 y4 y5 y6) (spec_l04Sum.l0 (k + 1) y0 y1 y2 y3 y4 y5 y6)) ∧ (∀ y0 y1 y2 y3 y4 y5, LeO (spec_l04Sum.l1 k y0 y1 y2 y3 y4 y5) (spec_l04Sum.l1 (k + 1) y0 y1 y2 y3 y4 y5)) ∧ (∀ y0 y1 y2 y3 y4 y5 y6 y7, LeO (spec_l04Sum.l2 k y0 y1 y2 y3 y4 y5 y6 y7) (spec_l04Sum.l2 (k + 1) y0 y1 y2 y3 y4 y5 y6 y7))
 | 0 => ⟨fun _ _ _ _ _ _ _ r h => by simp [spec_l04Sum.l0] at h, fun _ _ _ _ _ _ r h => by simp [spec_l04Sum.l1] at h, fun _ _ _ _ _ _ _ _ r h => by simp [spec_l04Sum.l2] at h⟩
 | k + 1 => by
  obtain ⟨ih0, ih1, ih2⟩ := spec_l04Sum.mono_l k; refine ⟨?_, ?_, ?_⟩
  · intro y0 y1 y2 y3 y4 y5 y6; unfold spec_l04Sum.l0; exact xq83
  · intro y0 y1 y2 y3 y4 y5; unfold spec_l04Sum.l1; exact xq83
  · intro y0 y1 y2 y3 y4 y5 y6 y7; unfold spec_l04Sum.l2; exact xq83
theorem spec_l04Sum.mono : ∀ a0 a1 a2 k, LeO (spec_l04Sum.f k a0 a1 a2) (spec_l04Sum.f (k + 1) a0 a1 a2) := by
 intro a0 a1 a2 k; obtain ⟨b0, b1, b2⟩ := spec_l04Sum.mono_l k
 unfold spec_l04Sum.f
 exact (by repeat' (with_reducible first | exact b0 _ _ _ _ _ _ _ | exact b1 _ _ _ _ _ _ | exact b2 _ _ _ _ _ _ _ _ | exact LeO.refl _ | exact LeO.none _ | refine LeO.ite ?_ ?_ | refine LeO.bind ?_ (fun _ => ?_)))
theorem spec_l04Sum.calls (k : Nat) (a0 : Int) (A1 : Option Addr) (c1 : Nat) (l1 : List Int) (a2 : Int) (r : List Int) (w : World) (hr1 : Kd.C (Kd.int .i64) w A1 l1.length l1) (hc1 : l1.length ≤ c1) (h : spec_l04Sum.f k a0 l1 a2 = some r) :
 Calls Try.prog 64 #[.int .i64 a0, .slice A1 l1.length c1, .int .i64 a2] w fun e w' => ∃ v0_ : Value, e = .returned (v0_) ∧ Kd.R (Kd.int .i64) 3 w' w.heap.size (fun _ => True) v0_ r ∧ Below w.heap.size w w' := by
 have g0 := ak hr1; have x0 := ak hc1; clear hr1 hc1; have HB := ak (Below.refl w.heap.size w); have H : ((spec_Modulus.f a0).bind fun z0 => (spec_l04Sum.l0 k l1 a2 z0 (l1.length : Int) (([] : List Int)) 1 0)) = some r := h; clear h; replace H := Option.bind_eq_some_iff.mp H; obtain ⟨z0, Z0, H⟩ := H; (try dsimp only at H); have A4 := ak Z0; clear Z0; obtain ⟨K0, hyq⟩ : ∃ y_ : List Int, y_ = (([] : List Int)) := ⟨_, rfl⟩; replace H : (spec_l04Sum.l0 k l1 a2 z0 (l1.length : Int) K0 1 0) = some r := by first | (rw [hyq]; with_reducible exact H) | (have e0 := (Option.bind_some _ _).symm.trans H; rw [hyq]; with_reducible exact e0) | (have e0 := (Option.bind_some _ _).symm.trans H; with_reducible exact e0) | with_reducible exact H | (rw [hyq]; exact H) | exact H
 have E0 := ak hyq; clear hyq; have H' := ak H; clear H; go_enter Try.func64, Try.ntmps64
 go_wp2_with (first | (go_at_call 117; (with_reducible refine (spec_Modulus.calls a0 z0 _ A4.out).mono ?_); rintro e w' ⟨rfl, ⟨nd, rfl⟩⟩; (try first | exact ⟨rfl, _, World.drewN_drewN _ _ _⟩ | exact ⟨rfl, _, Eq.trans (World.drewN_drewN _ _ _) (congrArg (World.drewN _) (Nat.add_assoc _ _ _))⟩)) | ((with_reducible refine gate_dst (N := 20) rfl ?_); refine Kd.R_lit (Kd.int .i64) _ 3 ?hg (N := 20) ?hd (xs := ([] : List Int)) (inner := []) (ok := fun _ => True) (okp := fun _ => True) ?hr ?hp (fun _ hk => hk) trivial (Below.refl _ _) (Nat.le_refl _) (by simp) ?_; (case hd => rfl); (case hg => rfl); (case hr => exact xq4); (case hp => exact (Reps.none _ _)); intro d0 w5 D0 hb hg_ hnew_; clear hg_ hnew_; (first | rw [← E0.out] at D0 | (simp only [Int.reduceToNat] at D0; rw [← E0.out] at D0)); have f0 := rL D0; replace HB := bS hb; clear hb D0))
 repeat (go_quiet (first | (go_at_call 117; (with_reducible refine (spec_Modulus.calls a0 z0 _ A4.out).mono ?_); rintro e w' ⟨rfl, ⟨nd, rfl⟩⟩; (try first | exact ⟨rfl, _, World.drewN_drewN _ _ _⟩ | exact ⟨rfl, _, Eq.trans (World.drewN_drewN _ _ _) (congrArg (World.drewN _) (Nat.add_assoc _ _ _))⟩)) | ((with_reducible refine gate_dst (N := 20) rfl ?_); refine Kd.R_lit (Kd.int .i64) _ 3 ?hg (N := 20) ?hd (xs := ([] : List Int)) (inner := []) (ok := fun _ => True) (okp := fun _ => True) ?hr ?hp (fun _ hk => hk) trivial (Below.refl _ _) (Nat.le_refl _) (by simp) ?_; (case hd => rfl); (case hg => rfl); (case hr => exact xq4); (case hp => exact (Reps.none _ _)); intro d0 w5 D0 hb hg_ hnew_; clear hg_ hnew_; (first | rw [← E0.out] at D0 | (simp only [Int.reduceToNat] at D0; rw [← E0.out] at D0)); have f0 := rL D0; replace HB := bS hb; clear hb D0)); try go_wp2_with (first | (go_at_call 117; (with_reducible refine (spec_Modulus.calls a0 z0 _ A4.out).mono ?_); rintro e w' ⟨rfl, ⟨nd, rfl⟩⟩; (try first | exact ⟨rfl, _, World.drewN_drewN _ _ _⟩ | exact ⟨rfl, _, Eq.trans (World.drewN_drewN _ _ _) (congrArg (World.drewN _) (Nat.add_assoc _ _ _))⟩)) | ((with_reducible refine gate_dst (N := 20) rfl ?_); refine Kd.R_lit (Kd.int .i64) _ 3 ?hg (N := 20) ?hd (xs := ([] : List Int)) (inner := []) (ok := fun _ => True) (okp := fun _ => True) ?hr ?hp (fun _ hk => hk) trivial (Below.refl _ _) (Nat.le_refl _) (by simp) ?_; (case hd => rfl); (case hg => rfl); (case hr => exact xq4); (case hp => exact (Reps.none _ _)); intro d0 w5 D0 hb hg_ hnew_; clear hg_ hnew_; (first | rw [← E0.out] at D0 | (simp only [Int.reduceToNat] at D0; rw [← E0.out] at D0)); have f0 := rL D0; replace HB := bS hb; clear hb D0)))
 go_loopg [9, 10, 11] k (fun kq v9 d1 d2 w' => ∃ (W0 : List Int) (W1 : Int) (W2 : Int), d1 = .int .i64 W1 ∧ d2 = .int .i64 W2 ∧ Aside0 (spec_l04Sum.l0 kq l1 a2 z0 (l1.length : Int) W0 W1 W2 = some r) ∧ Aside0 (kq ≤ k) ∧ Aside0 (Kd.R (Kd.int .i64) 3 w' w.heap.size (fun _ => True) v9 W0) ∧ Aside0 (Below w.heap.size w w'))
 case atStart => exact ⟨(K0), (1), (0), eqA, eqA, H', ⟨Nat.le_refl _⟩, ⟨rA f0⟩, ⟨belA⟩⟩
 case round =>
  clear H'; obtain ⟨W0, W1, W2, rfl, rfl, HA, n0, f1, HB⟩ := hrel
  cases gk with
  | zero => exact absurd HA.out (by simp [spec_l04Sum.l0])
  | succ k1 =>
   have H := HA.out; clear HA; simp only [spec_l04Sum.l0] at H
   by_cases c7 : W2 < (l1.length : Int)
   · rw [if_pos c7] at H; have N0 := decide_eq_true c7; clear c7
     by_cases c8 : W0.length < 17592186044416; rotate_left
     · rw [if_neg c8] at H; exact absurd H (by simp)
     rw [if_pos c8] at H; have c0 := ak c8; clear c8; obtain ⟨K1, hyq⟩ : ∃ y_ : List Int, y_ = (W0 ++ [W1]) := ⟨_, rfl⟩; replace H : (if z0 = 0 then (none) else (spec_l04Sum.l0 k1 l1 a2 z0 (l1.length : Int) K1 (Int.tmod (wrap64 (W1 * a2)) z0) (wrap64 (W2 + 1)))) = some r := by first | (rw [hyq]; with_reducible exact H) | (have e0 := (Option.bind_some _ _).symm.trans H; rw [hyq]; with_reducible exact e0) | (have e0 := (Option.bind_some _ _).symm.trans H; with_reducible exact e0) | with_reducible exact H | (rw [hyq]; exact H) | exact H
     have E1 := ak hyq; clear hyq
     by_cases c9 : z0 = 0
     · rw [if_pos c9] at H; exact absurd H (by simp)
     rw [if_neg c9] at H; have N1 : (z0 == 0) = false := beq_eq_false_iff_ne.mpr c9; have N2 : (z0 != 0) = true := bne_iff_ne.mpr c9; have H' := ak H; clear H; go_wp2_with (first | ((with_reducible refine gate_builtin (b := .append) (xs := #[.tmp 26, .tmp 28]) rfl ?_); at_builtin; refine Kd.R_append (Kd.int .i64) (w0 := w) w.heap.size rfl (.tmp 26) (.tmp 28) 27 3 (.int .i64 0) 8 rfl Try.underlying27 info3 rfl (by decide) (by omega) u9 W0 W1 [.int .i64 W1] (fun _ => True) (fun _ => False) rfl rfl ?aP (fun _ hk => hk.elim) ?aF ?aO ?aB ?aS ?aL ?_; (case aP => exact rfl); (case aB => exact belA); (case aF => exact (fun _ _ => trivial)); (case aO => exact (rF f1)); (case aS => exact (below_size belA)); (case aL => exact xq40); intro d3 k0 ho hb hg hat; rw [← E1.out] at ho; have f2 := ak ho; replace HB := ak hb; clear f1; clear ho hb hg hat))
     repeat (go_quiet (first | ((with_reducible refine gate_builtin (b := .append) (xs := #[.tmp 26, .tmp 28]) rfl ?_); at_builtin; refine Kd.R_append (Kd.int .i64) (w0 := w) w.heap.size rfl (.tmp 26) (.tmp 28) 27 3 (.int .i64 0) 8 rfl Try.underlying27 info3 rfl (by decide) (by omega) u9 W0 W1 [.int .i64 W1] (fun _ => True) (fun _ => False) rfl rfl ?aP (fun _ hk => hk.elim) ?aF ?aO ?aB ?aS ?aL ?_; (case aP => exact rfl); (case aB => exact belA); (case aF => exact (fun _ _ => trivial)); (case aO => exact (rF f1)); (case aS => exact (below_size belA)); (case aL => exact xq40); intro d3 k0 ho hb hg hat; rw [← E1.out] at ho; have f2 := ak ho; replace HB := ak hb; clear f1; clear ho hb hg hat)); try go_wp2_with (first | ((with_reducible refine gate_builtin (b := .append) (xs := #[.tmp 26, .tmp 28]) rfl ?_); at_builtin; refine Kd.R_append (Kd.int .i64) (w0 := w) w.heap.size rfl (.tmp 26) (.tmp 28) 27 3 (.int .i64 0) 8 rfl Try.underlying27 info3 rfl (by decide) (by omega) u9 W0 W1 [.int .i64 W1] (fun _ => True) (fun _ => False) rfl rfl ?aP (fun _ hk => hk.elim) ?aF ?aO ?aB ?aS ?aL ?_; (case aP => exact rfl); (case aB => exact belA); (case aF => exact (fun _ _ => trivial)); (case aO => exact (rF f1)); (case aS => exact (below_size belA)); (case aL => exact xq40); intro d3 k0 ho hb hg hat; rw [← E1.out] at ho; have f2 := ak ho; replace HB := ak hb; clear f1; clear ho hb hg hat)))
     go_roundg k1
     case measure => have := n0.out; omega
     case rel => exact ⟨(K1), (Int.tmod (wrap64 (W1 * a2)) z0), (wrap64 (W2 + 1)), eqA, eqA, H', ⟨xq16⟩, ⟨rA f2⟩, ⟨belA⟩⟩
   rw [if_neg c7] at H; have N0 := decide_eq_false c7; clear c7; obtain ⟨K2, hyq⟩ : ∃ y_ : List Int, y_ = (([] : List Int)) := ⟨_, rfl⟩; replace H : (spec_l04Sum.l1 k1 l1 z0 (l1.length : Int) W0 K2 0) = some r := by first | (rw [hyq]; with_reducible exact H) | (have e0 := (Option.bind_some _ _).symm.trans H; rw [hyq]; with_reducible exact e0) | (have e0 := (Option.bind_some _ _).symm.trans H; with_reducible exact e0) | with_reducible exact H | (rw [hyq]; exact H) | exact H
   have E2 := ak hyq; clear hyq; have H' := ak H; clear H; go_wp2_with (first | ((with_reducible refine gate_dst (N := 35) rfl ?_); refine Kd.R_lit (Kd.int .i64) _ 3 ?hg (N := 35) ?hd (xs := ([] : List Int)) (inner := []) (ok := fun _ => True) (okp := fun _ => True) ?hr ?hp (fun _ hk => hk) trivial (Below.refl _ _) (Nat.le_refl _) (by simp) ?_; (case hd => rfl); (case hg => rfl); (case hr => exact xq4); (case hp => exact (Reps.none _ _)); intro d4 k4 D1 hb hg_ hnew_; clear hg_ hnew_; (first | rw [← E2.out] at D1 | (simp only [Int.reduceToNat] at D1; rw [← E2.out] at D1)); have f3 := rL (Kd.R_new' D1 (Kd.R_lt (rF f1))); replace f1 := ak (Kd.R_elder' (rF f1) (Kd.R_base D1) hb); replace HB := bS hb; clear hb D1))
   repeat (go_quiet (first | ((with_reducible refine gate_dst (N := 35) rfl ?_); refine Kd.R_lit (Kd.int .i64) _ 3 ?hg (N := 35) ?hd (xs := ([] : List Int)) (inner := []) (ok := fun _ => True) (okp := fun _ => True) ?hr ?hp (fun _ hk => hk) trivial (Below.refl _ _) (Nat.le_refl _) (by simp) ?_; (case hd => rfl); (case hg => rfl); (case hr => exact xq4); (case hp => exact (Reps.none _ _)); intro d4 k4 D1 hb hg_ hnew_; clear hg_ hnew_; (first | rw [← E2.out] at D1 | (simp only [Int.reduceToNat] at D1; rw [← E2.out] at D1)); have f3 := rL (Kd.R_new' D1 (Kd.R_lt (rF f1))); replace f1 := ak (Kd.R_elder' (rF f1) (Kd.R_base D1) hb); replace HB := bS hb; clear hb D1)); try go_wp2_with (first | ((with_reducible refine gate_dst (N := 35) rfl ?_); refine Kd.R_lit (Kd.int .i64) _ 3 ?hg (N := 35) ?hd (xs := ([] : List Int)) (inner := []) (ok := fun _ => True) (okp := fun _ => True) ?hr ?hp (fun _ hk => hk) trivial (Below.refl _ _) (Nat.le_refl _) (by simp) ?_; (case hd => rfl); (case hg => rfl); (case hr => exact xq4); (case hp => exact (Reps.none _ _)); intro d4 k4 D1 hb hg_ hnew_; clear hg_ hnew_; (first | rw [← E2.out] at D1 | (simp only [Int.reduceToNat] at D1; rw [← E2.out] at D1)); have f3 := rL (Kd.R_new' D1 (Kd.R_lt (rF f1))); replace f1 := ak (Kd.R_elder' (rF f1) (Kd.R_base D1) hb); replace HB := bS hb; clear hb D1)))
   go_loopg [12, 13] k1 (fun kq d5 d6 w' => ∃ (W3 : List Int) (W4 : Int), d6 = .int .i64 W4 ∧ Aside0 (spec_l04Sum.l1 kq l1 z0 (l1.length : Int) W0 W3 W4 = some r) ∧ Aside0 (kq ≤ k1) ∧ Aside0 (Kd.R (Kd.int .i64) 3 w' w.heap.size (fun k_ => some k_ ≠ (d5 : Value).ownBlock) u9 W0) ∧ Aside0 (Kd.R (Kd.int .i64) 3 w' w.heap.size (fun k_ => some k_ ≠ (u9 : Value).ownBlock) d5 W3) ∧ Aside0 (Below w.heap.size w w'))
   case atStart => exact ⟨(K2), (0), eqA, H', ⟨Nat.le_refl _⟩, ⟨rE (Kd.R_mono f1.out (fun _ hk => hk.2))⟩, ⟨rE (Kd.R_mono f3.out (fun _ hk => hk.2))⟩, ⟨belA⟩⟩
   case round =>
    clear H'; obtain ⟨W3, W4, rfl, HA, n1, f1, f4, HB⟩ := hrel
    cases gk with
    | zero => exact absurd HA.out (by simp [spec_l04Sum.l1])
    | succ k2 =>
     have H := HA.out; clear HA; simp only [spec_l04Sum.l1] at H
     by_cases N3 : W4 < (l1.length : Int); rotate_left
     · rw [if_neg N3] at H; have N4 := decide_eq_false N3; clear N3; obtain rfl := Option.some.inj H; go_wp2
       repeat (go_quiet (fail); try go_wp2)
       go_ret
       exact ⟨_, xq1, by (with_reducible repeat (first | apply Kd.R_alloc | apply Kd.R_drewN | apply Kd.R_drew)); exact Kd.R_mono f4.out (fun _ hk => trivial), belA⟩
     rw [if_pos N3] at H; have N4 := decide_eq_true N3; clear N3; have H' := ak H; clear H; go_wp2
     repeat (go_quiet (fail); try go_wp2)
     go_loopg [14, 15] k2 (fun kq d7 d8 w' => ∃ (W5 : Int) (W6 : Int), d7 = .int .i64 W5 ∧ d8 = .int .i64 W6 ∧ Aside0 (spec_l04Sum.l2 kq l1 z0 (l1.length : Int) W0 W3 W4 W5 W6 = some r) ∧ Aside0 (kq ≤ k2) ∧ Aside0 (Kd.R (Kd.int .i64) 3 w' w.heap.size (fun k_ => some k_ ≠ (u12 : Value).ownBlock) u9 W0) ∧ Aside0 (Kd.R (Kd.int .i64) 3 w' w.heap.size (fun k_ => some k_ ≠ (u9 : Value).ownBlock) u12 W3) ∧ Aside0 (Below w.heap.size w w'))
     case atStart => exact ⟨(0), (0), eqA, eqA, H', ⟨Nat.le_refl _⟩, ⟨rA f1⟩, ⟨rA f4⟩, ⟨belA⟩⟩
     case round =>
      clear H'; obtain ⟨W5, W6, rfl, rfl, HA, n2, f1, f4, HB⟩ := hrel
      cases gk with
      | zero => exact absurd HA.out (by simp [spec_l04Sum.l2])
      | succ k3 =>
       have H := HA.out; clear HA; simp only [spec_l04Sum.l2] at H
       by_cases N5 : W6 < (l1.length : Int)
       · rw [if_pos N5] at H; have N6 := decide_eq_true N5; clear N5
         by_cases N7 : 0 ≤ W6; rotate_left
         · rw [if_neg N7] at H; exact absurd H (by simp)
         rw [if_pos N7] at H; have N8 := decide_eq_true N7; clear N7
         by_cases N9 : W6 < (l1.length : Int); rotate_left
         · rw [if_neg N9] at H; exact absurd H (by simp)
         rw [if_pos N9] at H; have Na := decide_eq_true N9; clear N9
         by_cases Nb : (l1.length : Int) = 0
         · rw [if_pos Nb] at H; exact absurd H (by simp)
         rw [if_neg Nb] at H; have Nc : ((l1.length : Int) == 0) = false := beq_eq_false_iff_ne.mpr Nb; have Nd : ((l1.length : Int) != 0) = true := bne_iff_ne.mpr Nb; have Ne : ¬ (l1 = []) := fun h_ => Nb (by rw [h_]; rfl)
         obtain ⟨J0, G0⟩ : ∃ j_ : Int, (Int.tmod (wrap64 (W4 * W6)) (l1.length : Int)) = j_ := ⟨_, rfl⟩; replace H : (if 0 ≤ (J0) then (if (J0) < (W0.length : Int) then (if z0 = 0 then (none) else (spec_l04Sum.l2 k3 l1 z0 (l1.length : Int) W0 W3 W4 (Int.tmod (wrap64 (W5 + (wrap64 ((rd l1 W6) * (rd W0 (J0)))))) z0) (wrap64 (W6 + 1)))) else (none)) else (none)) = some r := by first | (rw [G0] at H; exact H) | (simp only [G0] at H ⊢; exact H)
         by_cases Nf : 0 ≤ (J0); rotate_left
         · rw [if_neg Nf] at H; exact absurd H (by simp)
         rw [if_pos Nf] at H; have Ng := decide_eq_true Nf; clear Nf
         by_cases Nh : (J0) < (W0.length : Int); rotate_left
         · rw [if_neg Nh] at H; exact absurd H (by simp)
         rw [if_pos Nh] at H; have Ni := decide_eq_true Nh; clear Nh
         by_cases Nj : z0 = 0
         · rw [if_pos Nj] at H; exact absurd H (by simp)
         rw [if_neg Nj] at H; have Nk : (z0 == 0) = false := beq_eq_false_iff_ne.mpr Nj; have Nl : (z0 != 0) = true := bne_iff_ne.mpr Nj; have H' := ak H; clear H; have v0 : 0 ≤ (W6 : Int) := odA; have V0 : W6 < (l1.length : Int) := odA; obtain ⟨a5, A0, o0⟩ := Kd.at_int g0.out W6 v0 V0
         cases A0
         try replace o0 := cB HB o0
         replace v0 := eq_true v0; replace V0 := eq_true V0; obtain ⟨F0, l6, L0⟩ := Kd.R_slice f1.out; subst L0; have v1 : 0 ≤ ((J0) : Int) := odA; have V1 : (J0) < (W0.length : Int) := odA; obtain ⟨a6, A2, o1⟩ := Kd.at_int (Kd.R_reads' f1.out).2.2 (J0) v1 V1
         cases A2
         replace v1 := eq_true v1; replace V1 := eq_true V1; go_wp2
         repeat (go_quiet (fail); try go_wp2)
         go_roundg k3
         case measure => have := n0.out; have := n1.out; have := n2.out; omega
         case rel => exact ⟨(Int.tmod (wrap64 (W5 + (wrap64 ((rd l1 W6) * (rd W0 (J0)))))) z0), (wrap64 (W6 + 1)), xq69, eqA, H', ⟨by have := n0.out; have := n1.out; have := n2.out; omega⟩, ⟨rA f1⟩, ⟨rA f4⟩, ⟨belA⟩⟩
       rw [if_neg N5] at H; have N6 := decide_eq_false N5; clear N5
       by_cases Nm : W3.length < 17592186044416; rotate_left
       · rw [if_neg Nm] at H; exact absurd H (by simp)
       rw [if_pos Nm] at H; have ca := ak Nm; clear Nm; obtain ⟨K3, hyq⟩ : ∃ y_ : List Int, y_ = (W3 ++ [W5]) := ⟨_, rfl⟩; replace H : (spec_l04Sum.l1 k3 l1 z0 (l1.length : Int) W0 K3 (wrap64 (W4 + 1))) = some r := by first | (rw [hyq]; with_reducible exact H) | (have e0 := (Option.bind_some _ _).symm.trans H; rw [hyq]; with_reducible exact e0) | (have e0 := (Option.bind_some _ _).symm.trans H; with_reducible exact e0) | with_reducible exact H | (rw [hyq]; exact H) | exact H
       have E3 := ak hyq; clear hyq; have H' := ak H; clear H; go_wp2_with (first | ((with_reducible refine gate_builtin (b := .append) (xs := #[.tmp 63, .tmp 65]) rfl ?_); at_builtin; refine Kd.R_append (Kd.int .i64) (w0 := w) w.heap.size rfl (.tmp 63) (.tmp 65) 27 3 (.int .i64 0) 8 rfl Try.underlying27 info3 rfl (by decide) (by omega) u12 W3 W5 [.int .i64 W5] (fun k_ => some k_ ≠ (u9 : Value).ownBlock) (fun _ => False) rfl rfl ?aP (fun _ hk => hk.elim) ?aF ?aO ?aB ?aS ?aL ?_; (case aP => exact rfl); (case aB => exact belA); (case aF => exact xq49); (case aO => exact (rF f4)); (case aS => exact (below_size belA)); (case aL => exact xq28); intro d9 k5 ho hb hg hat; rw [← E3.out] at ho; have f5 := ak ho; replace f1 := ak (Kd.R_after (ok := (fun _ => True)) xq84 hg hat); replace HB := ak hb; clear f4; clear ho hb hg hat))
       repeat (go_quiet (first | ((with_reducible refine gate_builtin (b := .append) (xs := #[.tmp 63, .tmp 65]) rfl ?_); at_builtin; refine Kd.R_append (Kd.int .i64) (w0 := w) w.heap.size rfl (.tmp 63) (.tmp 65) 27 3 (.int .i64 0) 8 rfl Try.underlying27 info3 rfl (by decide) (by omega) u12 W3 W5 [.int .i64 W5] (fun k_ => some k_ ≠ (u9 : Value).ownBlock) (fun _ => False) rfl rfl ?aP (fun _ hk => hk.elim) ?aF ?aO ?aB ?aS ?aL ?_; (case aP => exact rfl); (case aB => exact belA); (case aF => exact xq49); (case aO => exact (rF f4)); (case aS => exact (below_size belA)); (case aL => exact xq28); intro d9 k5 ho hb hg hat; rw [← E3.out] at ho; have f5 := ak ho; replace f1 := ak (Kd.R_after (ok := (fun _ => True)) xq84 hg hat); replace HB := ak hb; clear f4; clear ho hb hg hat)); try go_wp2_with (first | ((with_reducible refine gate_builtin (b := .append) (xs := #[.tmp 63, .tmp 65]) rfl ?_); at_builtin; refine Kd.R_append (Kd.int .i64) (w0 := w) w.heap.size rfl (.tmp 63) (.tmp 65) 27 3 (.int .i64 0) 8 rfl Try.underlying27 info3 rfl (by decide) (by omega) u12 W3 W5 [.int .i64 W5] (fun k_ => some k_ ≠ (u9 : Value).ownBlock) (fun _ => False) rfl rfl ?aP (fun _ hk => hk.elim) ?aF ?aO ?aB ?aS ?aL ?_; (case aP => exact rfl); (case aB => exact belA); (case aF => exact xq49); (case aO => exact (rF f4)); (case aS => exact (below_size belA)); (case aL => exact xq28); intro d9 k5 ho hb hg hat; rw [← E3.out] at ho; have f5 := ak ho; replace f1 := ak (Kd.R_after (ok := (fun _ => True)) xq84 hg hat); replace HB := ak hb; clear f4; clear ho hb hg hat)))
       go_roundg k3
       case measure => have := n0.out; have := n1.out; have := n2.out; omega
       case rel => exact ⟨(K3), (wrap64 (W4 + 1)), eqA, H', ⟨by have := n0.out; have := n1.out; have := n2.out; omega⟩, ⟨rE (Kd.R_mono f1.out (fun _ hk => hk.2))⟩, ⟨rA f5⟩, ⟨belA⟩⟩

def spec_Reduce.f (a0 : Int) (a1 : Int) : Option (Int) := (spec_Modulus.f a0).bind fun t281 => (if t281 = 0 then (some (-1)) else (if (Int.tmod a1 t281) < 0 then (some (wrap64 ((Int.tmod a1 t281) + t281))) else (some (Int.tmod a1 t281))))
theorem spec_Reduce.calls (a0 : Int) (a1 : Int) (r : Int) (w : World) (h : spec_Reduce.f a0 a1 = some r) :
 Calls Try.prog 153 #[.int .i64 a0, .int .i64 a1] w fun e w' => e = .returned (.int .i64 r) ∧ Drawn0 w w' := by
 have H : ((spec_Modulus.f a0).bind fun z0 => (if z0 = 0 then (some (-1)) else (if (Int.tmod a1 z0) < 0 then (some (wrap64 ((Int.tmod a1 z0) + z0))) else (some (Int.tmod a1 z0))))) = some r := h; clear h; replace H := Option.bind_eq_some_iff.mp H; obtain ⟨z0, Z0, H⟩ := H; (try dsimp only at H); have A3 := ak Z0; clear Z0
 by_cases c4 : z0 = 0
 · rw [if_pos c4] at H; have N0 : (z0 == 0) = true := beq_iff_eq.mpr c4; have N1 : (z0 != 0) = false := bne_eq_false_iff_eq.mpr c4; clear c4; obtain rfl := Option.some.inj H; go_enter Try.func153, Try.ntmps153
   go_wp2_with (first | ((with_reducible refine gate_callee (f := 117) rfl ?_); refine goB 8 Try.func117 #[.int .i64 a0] rfl ?_; (with_reducible refine (spec_Modulus.calls a0 z0 _ A3.out).mono ?_); rintro e w' ⟨rfl, ⟨nd, rfl⟩⟩; refine ⟨_, rfl, ?_⟩))
   go_ret
   exact ⟨xq7, xq3⟩
 rw [if_neg c4] at H; have N0 : (z0 == 0) = false := beq_eq_false_iff_ne.mpr c4; have N1 : (z0 != 0) = true := bne_iff_ne.mpr c4
 by_cases c5 : (Int.tmod a1 z0) < 0
 · rw [if_pos c5] at H; have N2 := decide_eq_true c5; clear c5; obtain rfl := Option.some.inj H; go_enter Try.func153, Try.ntmps153
   go_wp2_with (first | ((with_reducible refine gate_callee (f := 117) rfl ?_); refine goB 8 Try.func117 #[.int .i64 a0] rfl ?_; (with_reducible refine (spec_Modulus.calls a0 z0 _ A3.out).mono ?_); rintro e w' ⟨rfl, ⟨nd, rfl⟩⟩; refine ⟨_, rfl, ?_⟩))
   go_ret
   exact ⟨xq7, xq3⟩
 rw [if_neg c5] at H; have N2 := decide_eq_false c5; clear c5; obtain rfl := Option.some.inj H; go_enter Try.func153, Try.ntmps153
 go_wp2_with (first | ((with_reducible refine gate_callee (f := 117) rfl ?_); refine goB 8 Try.func117 #[.int .i64 a0] rfl ?_; (with_reducible refine (spec_Modulus.calls a0 z0 _ A3.out).mono ?_); rintro e w' ⟨rfl, ⟨nd, rfl⟩⟩; refine ⟨_, rfl, ?_⟩))
 go_ret
 exact ⟨xq7, xq3⟩

mutual
def spec_Power.j0 : Nat → Int → Int → Int → Option (Int)
 | 0, _, _, _ => none
 | k + 1, x7, x8, x9 => spec_Power.l0 k x7 x8 x9 1
def spec_Power.l0 : Nat → Int → Int → Int → Int → Option (Int)
 | 0, _, _, _, _ => none
 | k + 1, x7, x8, x9, x10 => if x9 > 0 then (if (Int.tmod x9 2) = 1 then (if x7 = 0 then (none) else (spec_Power.l0 k x7 (Int.tmod (wrap64 (x8 * x8)) x7) (wrap64 (Int.tdiv x9 2)) (Int.tmod (wrap64 (x10 * x8)) x7))) else (if x7 = 0 then (none) else (spec_Power.l0 k x7 (Int.tmod (wrap64 (x8 * x8)) x7) (wrap64 (Int.tdiv x9 2)) x10))) else (some x10)
end
def spec_Power.f (k : Nat) (a0 : Int) (a1 : Int) (a2 : Int) : Option (Int) := (spec_Modulus.f a0).bind fun t282 => (if t282 = 0 then (some (-1)) else ((spec_Reduce.f a0 a1).bind fun t283 => (if t283 = 0 then (if a2 = 0 then (some 1) else (if a2 < 0 then (some (-1)) else (some 0))) else (if (wrap64 (t282 - 1)) = 0 then (none) else (if (Int.tmod a2 (wrap64 (t282 - 1))) < 0 then (spec_Power.j0 k t282 t283 (wrap64 ((wrap64 ((Int.tmod a2 (wrap64 (t282 - 1))) + t282)) - 1))) else (spec_Power.j0 k t282 t283 (Int.tmod a2 (wrap64 (t282 - 1)))))))))
theorem spec_Power.mono_l : ∀ k, (∀ y0 y1 y2, LeO (spec_Power.j0 k y0 y1 y2) (spec_Power.j0 (k + 1) y0 y1 y2)) ∧ (∀ y0 y1 y2 y3, LeO (spec_Power.l0 k y0 y1 y2 y3) (spec_Power.l0 (k + 1) y0 y1 y2 y3))
 | 0 => ⟨fun _ _ _ r h => by simp [spec_Power.j0] at h, fun _ _ _ _ r h => by simp [spec_Power.l0] at h⟩
 | k + 1 => by
  obtain ⟨ih0, ih1⟩ := spec_Power.mono_l k; refine ⟨?_, ?_⟩
  · intro y0 y1 y2; unfold spec_Power.j0; exact xq120
  · intro y0 y1 y2 y3; unfold spec_Power.l0; exact xq120
theorem spec_Power.mono : ∀ a0 a1 a2 k, LeO (spec_Power.f k a0 a1 a2) (spec_Power.f (k + 1) a0 a1 a2) := by
 intro a0 a1 a2 k; obtain ⟨b0, b1⟩ := spec_Power.mono_l k
 unfold spec_Power.f
 exact (by repeat' (with_reducible first | exact b0 _ _ _ | exact b1 _ _ _ _ | exact LeO.refl _ | exact LeO.none _ | refine LeO.ite ?_ ?_ | refine LeO.bind ?_ (fun _ => ?_)))
theorem spec_Power.calls (k : Nat) (a0 : Int) (a1 : Int) (a2 : Int) (r : Int) (w : World) (h : spec_Power.f k a0 a1 a2 = some r) :
 Calls Try.prog 118 #[.int .i64 a0, .int .i64 a1, .int .i64 a2] w fun e w' => e = .returned (.int .i64 r) ∧ Drawn0 w w' := by
 have H : ((spec_Modulus.f a0).bind fun z0 => (if z0 = 0 then (some (-1)) else ((spec_Reduce.f a0 a1).bind fun z1 => (if z1 = 0 then (if a2 = 0 then (some 1) else (if a2 < 0 then (some (-1)) else (some 0))) else (if (wrap64 (z0 - 1)) = 0 then (none) else (if (Int.tmod a2 (wrap64 (z0 - 1))) < 0 then (spec_Power.j0 k z0 z1 (wrap64 ((wrap64 ((Int.tmod a2 (wrap64 (z0 - 1))) + z0)) - 1))) else (spec_Power.j0 k z0 z1 (Int.tmod a2 (wrap64 (z0 - 1)))))))))) = some r := h; clear h; replace H := Option.bind_eq_some_iff.mp H; obtain ⟨z0, Z0, H⟩ := H; (try dsimp only at H); have A4 := ak Z0; clear Z0
 by_cases c5 : z0 = 0
 · rw [if_pos c5] at H; have N0 : (z0 == 0) = true := beq_iff_eq.mpr c5; have N1 : (z0 != 0) = false := bne_eq_false_iff_eq.mpr c5; clear c5; obtain rfl := Option.some.inj H; go_enter Try.func118, Try.ntmps118
   go_wp2_with (first | ((with_reducible refine gate_callee (f := 117) rfl ?_); refine goB 12 Try.func117 #[.int .i64 a0] rfl ?_; (with_reducible refine (spec_Modulus.calls a0 z0 _ A4.out).mono ?_); rintro e w' ⟨rfl, ⟨nd, rfl⟩⟩; refine ⟨_, rfl, ?_⟩))
   go_ret
   exact ⟨xq7, xq3⟩
 rw [if_neg c5] at H; have N0 : (z0 == 0) = false := beq_eq_false_iff_ne.mpr c5; have N1 : (z0 != 0) = true := bne_iff_ne.mpr c5; replace H := Option.bind_eq_some_iff.mp H; obtain ⟨z1, Z1, H⟩ := H; (try dsimp only at H); have A6 := ak Z1; clear Z1
 by_cases c7 : z1 = 0
 · rw [if_pos c7] at H; have N2 : (z1 == 0) = true := beq_iff_eq.mpr c7; have N3 : (z1 != 0) = false := bne_eq_false_iff_eq.mpr c7; clear c7
   by_cases c8 : a2 = 0
   · rw [if_pos c8] at H; have N4 : (a2 == 0) = true := beq_iff_eq.mpr c8; have N5 : (a2 != 0) = false := bne_eq_false_iff_eq.mpr c8; clear c8; obtain rfl := Option.some.inj H; go_enter Try.func118, Try.ntmps118
     go_wp2_with (first | ((with_reducible refine gate_callee (f := 117) rfl ?_); refine goB 12 Try.func117 #[.int .i64 a0] rfl ?_; (with_reducible refine (spec_Modulus.calls a0 z0 _ A4.out).mono ?_); rintro e w' ⟨rfl, ⟨nd, rfl⟩⟩; refine ⟨_, rfl, ?_⟩) | ((with_reducible refine gate_callee (f := 153) rfl ?_); refine goB 17 Try.func153 #[.int .i64 a0, .int .i64 a1] rfl ?_; (with_reducible refine (spec_Reduce.calls a0 a1 z1 _ A6.out).mono ?_); rintro e w' ⟨rfl, ⟨nd, rfl⟩⟩; refine ⟨_, rfl, ?_⟩))
     go_ret
     exact ⟨xq7, xq3⟩
   rw [if_neg c8] at H; have N4 : (a2 == 0) = false := beq_eq_false_iff_ne.mpr c8; have N5 : (a2 != 0) = true := bne_iff_ne.mpr c8
   by_cases c9 : a2 < 0
   · rw [if_pos c9] at H; have N6 := decide_eq_true c9; clear c9; obtain rfl := Option.some.inj H; go_enter Try.func118, Try.ntmps118
     go_wp2_with (first | ((with_reducible refine gate_callee (f := 117) rfl ?_); refine goB 12 Try.func117 #[.int .i64 a0] rfl ?_; (with_reducible refine (spec_Modulus.calls a0 z0 _ A4.out).mono ?_); rintro e w' ⟨rfl, ⟨nd, rfl⟩⟩; refine ⟨_, rfl, ?_⟩) | ((with_reducible refine gate_callee (f := 153) rfl ?_); refine goB 17 Try.func153 #[.int .i64 a0, .int .i64 a1] rfl ?_; (with_reducible refine (spec_Reduce.calls a0 a1 z1 _ A6.out).mono ?_); rintro e w' ⟨rfl, ⟨nd, rfl⟩⟩; refine ⟨_, rfl, ?_⟩))
     go_ret
     exact ⟨xq7, xq3⟩
   rw [if_neg c9] at H; have N6 := decide_eq_false c9; clear c9; obtain rfl := Option.some.inj H; go_enter Try.func118, Try.ntmps118
   go_wp2_with (first | ((with_reducible refine gate_callee (f := 117) rfl ?_); refine goB 12 Try.func117 #[.int .i64 a0] rfl ?_; (with_reducible refine (spec_Modulus.calls a0 z0 _ A4.out).mono ?_); rintro e w' ⟨rfl, ⟨nd, rfl⟩⟩; refine ⟨_, rfl, ?_⟩) | ((with_reducible refine gate_callee (f := 153) rfl ?_); refine goB 17 Try.func153 #[.int .i64 a0, .int .i64 a1] rfl ?_; (with_reducible refine (spec_Reduce.calls a0 a1 z1 _ A6.out).mono ?_); rintro e w' ⟨rfl, ⟨nd, rfl⟩⟩; refine ⟨_, rfl, ?_⟩))
   go_ret
   exact ⟨xq7, xq3⟩
 rw [if_neg c7] at H; have N2 : (z1 == 0) = false := beq_eq_false_iff_ne.mpr c7; have N3 : (z1 != 0) = true := bne_iff_ne.mpr c7
 by_cases c10 : (wrap64 (z0 - 1)) = 0
 · rw [if_pos c10] at H; exact absurd H (by simp)
 rw [if_neg c10] at H; have N7 : ((wrap64 (z0 - 1)) == 0) = false := beq_eq_false_iff_ne.mpr c10; have N8 : ((wrap64 (z0 - 1)) != 0) = true := bne_iff_ne.mpr c10; have x0 := ak H; clear H; go_enter Try.func118, Try.ntmps118
 go_upto_if 29 with (first | ((with_reducible refine gate_callee (f := 117) rfl ?_); refine goB 12 Try.func117 #[.int .i64 a0] rfl ?_; (with_reducible refine (spec_Modulus.calls a0 z0 _ A4.out).mono ?_); rintro e w' ⟨rfl, ⟨nd, rfl⟩⟩; refine ⟨_, rfl, ?_⟩) | ((with_reducible refine gate_callee (f := 153) rfl ?_); refine goB 17 Try.func153 #[.int .i64 a0, .int .i64 a1] rfl ?_; (with_reducible refine (spec_Reduce.calls a0 a1 z1 _ A6.out).mono ?_); rintro e w' ⟨rfl, ⟨nd, rfl⟩⟩; refine ⟨_, rfl, ?_⟩))
 (try simp only [Act.put, sa, sb, sc])
 go_cut [9] (fun v9 wc => ∃ (kq : Nat) (W0 : Int), v9 = .int .i64 W0 ∧ Aside0 (spec_Power.j0 kq z0 z1 W0 = some r) ∧ Aside0 (kq ≤ k) ∧ Drawn0 w wc)
 case first =>
  have H := x0.out; clear x0
  by_cases N9 : (Int.tmod a2 (wrap64 (z0 - 1))) < 0; rotate_left
  · rw [if_neg N9] at H; have Na := decide_eq_false N9; have Nb : decide ((Int.tmod a2 (IntKind.i64.wrap (z0 - 1))) < 0) = false := by simp only [i64_w]; exact Na
    clear N9; (first | rw [Na] | (simp only [i64_w, i32_w]; rw [Na]) | skip)
    have H' := ak H; clear H; go_wp2
    go_meet
    case rel => exact ⟨_, (Int.tmod a2 (wrap64 (z0 - 1))), eqA, H', ⟨xq11⟩, xq3⟩
  rw [if_pos N9] at H; have Na := decide_eq_true N9; have Nb : decide ((Int.tmod a2 (IntKind.i64.wrap (z0 - 1))) < 0) = true := by simp only [i64_w]; exact Na
  clear N9; (first | rw [Na] | (simp only [i64_w, i32_w]; rw [Na]) | skip)
  have H' := ak H; clear H; go_wp2
  go_meet
  case rel => exact ⟨_, (wrap64 ((wrap64 ((Int.tmod a2 (wrap64 (z0 - 1))) + z0)) - 1)), eqA, H', ⟨xq11⟩, xq3⟩
 case rest =>
  clear x0; obtain ⟨kq, W0, rfl, HA, t0, ⟨W1, rfl⟩⟩ := hcut
  cases kq with
  | zero => exact absurd HA.out (by simp [spec_Power.j0])
  | succ g0 =>
   have H := HA.out; clear HA; simp only [spec_Power.j0] at H; have H' := ak H; clear H; go_wp2
   go_loopg [8, 9, 10] g0 (fun kq v8 v9 d0 w' => ∃ (W2 : Int) (W3 : Int) (W4 : Int), v8 = .int .i64 W2 ∧ v9 = .int .i64 W3 ∧ d0 = .int .i64 W4 ∧ Aside0 (spec_Power.l0 kq z0 W2 W3 W4 = some r) ∧ Aside0 (kq ≤ g0) ∧ Drawn0 w w')
   case atStart => exact ⟨(z1), (W0), (1), eqA, eqA, eqA, H', ⟨Nat.le_refl _⟩, xq3⟩
   case round =>
    clear H'; obtain ⟨W2, W3, W4, rfl, rfl, rfl, HA, n0, ⟨m2, rfl⟩⟩ := hrel
    cases gk with
    | zero => exact absurd HA.out (by simp [spec_Power.l0])
    | succ k2 =>
     have H := HA.out; clear HA; simp only [spec_Power.l0] at H
     by_cases Nc : W3 > 0; rotate_left
     · rw [if_neg Nc] at H; have Nd : decide (0 < W3) = false := decide_eq_false Nc; clear Nc; obtain rfl := Option.some.inj H; go_wp2
       go_ret
       exact ⟨xq7, xq3⟩
     rw [if_pos Nc] at H; have Nd : decide (0 < W3) = true := decide_eq_true Nc; clear Nc
     by_cases Ne : (Int.tmod W3 2) = 1; rotate_left
     · rw [if_neg Ne] at H; have Nf : ((Int.tmod W3 2) == 1) = false := beq_eq_false_iff_ne.mpr Ne; have Ng : ((Int.tmod W3 2) != 1) = true := bne_iff_ne.mpr Ne
       by_cases Nh : z0 = 0
       · rw [if_pos Nh] at H; exact absurd H (by simp)
       rw [if_neg Nh] at H; have Ni : (z0 == 0) = false := beq_eq_false_iff_ne.mpr Nh; have Nj : (z0 != 0) = true := bne_iff_ne.mpr Nh; have H' := ak H; clear H; go_wp2
       go_roundg k2
       case measure => have := t0.out; have := n0.out; omega
       case rel => exact ⟨(Int.tmod (wrap64 (W2 * W2)) z0), (wrap64 (Int.tdiv W3 2)), (W4), eqA, eqA, eqA, H', ⟨xq26⟩, xq3⟩
     rw [if_pos Ne] at H; have Nf : ((Int.tmod W3 2) == 1) = true := beq_iff_eq.mpr Ne; have Ng : ((Int.tmod W3 2) != 1) = false := bne_eq_false_iff_eq.mpr Ne; clear Ne
     by_cases Nk : z0 = 0
     · rw [if_pos Nk] at H; exact absurd H (by simp)
     rw [if_neg Nk] at H; have Nl : (z0 == 0) = false := beq_eq_false_iff_ne.mpr Nk; have Nm : (z0 != 0) = true := bne_iff_ne.mpr Nk; have H' := ak H; clear H; go_wp2
     go_roundg k2
     case measure => have := t0.out; have := n0.out; omega
     case rel => exact ⟨(Int.tmod (wrap64 (W2 * W2)) z0), (wrap64 (Int.tdiv W3 2)), (Int.tmod (wrap64 (W4 * W2)) z0), eqA, eqA, eqA, H', ⟨xq26⟩, xq3⟩

end Go.Proofs.Ytbojabmpcfclhaa.PFnPlanTurned

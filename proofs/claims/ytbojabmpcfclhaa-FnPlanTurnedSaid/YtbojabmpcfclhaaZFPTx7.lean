-- Written by a program of this session (the print of the kit with contracts of this session's own added)
import Derived.Test.YtbojabmpcfclhaaZFPTx6
set_option maxHeartbeats 8000000
set_option maxRecDepth 100000
namespace Go.Proofs.Ytbojabmpcfclhaa.PFnPlanTurned
open Go.RowKit Go.Proofs.YtbojabmpcfclhaaW.PrintWords Go.Proofs.YtbojabmpcfclhaaW.PrintLast Go.Proofs.YtbojabmpcfclhaaW.PrintMore Go.Proofs.YtbojabmpcfclhaaW.PrintPack Go.Proofs.YtbojabmpcfclhaaW.PrintPack
attribute [local go_sem] max2_int min2_int max_two min_two max_three min_three max_four min_four   -- for this text's walks alone
set_option linter.unusedVariables false
set_option linter.unusedSimpArgs false

mutual
def spec_Generator.j0 : Nat → Int → Bool → Option (Int)
 | 0, _, _ => none
 | k + 1, x3, x4 => if x4 = true then (some 3) else (if x3 = 1 then (spec_Generator.j1 k x3 (x3 == 1)) else (spec_Generator.j1 k x3 (x3 == 2)))
def spec_Generator.j1 : Nat → Int → Bool → Option (Int)
 | 0, _, _ => none
 | k + 1, x3, x10 => if x10 = true then (some 5) else (if x3 = 4 then (some 17) else (if x3 = 5 then (some 11) else (some 0)))
end
def spec_Generator.f (k : Nat) (a0 : Int) : Option (Int) := if a0 = 0 then (spec_Generator.j0 k a0 (a0 == 0)) else (if a0 = 3 then (spec_Generator.j0 k a0 (a0 == 3)) else (if a0 = 6 then (spec_Generator.j0 k a0 (a0 == 6)) else (if a0 = 7 then (spec_Generator.j0 k a0 (a0 == 7)) else (spec_Generator.j0 k a0 (a0 == 8)))))
theorem spec_Generator.mono_l : ∀ k, (∀ y0 y1, LeO (spec_Generator.j0 k y0 y1) (spec_Generator.j0 (k + 1) y0 y1)) ∧ (∀ y0 y1, LeO (spec_Generator.j1 k y0 y1) (spec_Generator.j1 (k + 1) y0 y1))
 | 0 => ⟨fun _ _ r h => by simp [spec_Generator.j0] at h, fun _ _ r h => by simp [spec_Generator.j1] at h⟩
 | k + 1 => by
  obtain ⟨ih0, ih1⟩ := spec_Generator.mono_l k; refine ⟨?_, ?_⟩
  · intro y0 y1; unfold spec_Generator.j0; exact xq121
  · intro y0 y1; unfold spec_Generator.j1; exact xq121
theorem spec_Generator.mono : ∀ a0 k, LeO (spec_Generator.f k a0) (spec_Generator.f (k + 1) a0) := by
 intro a0 k; obtain ⟨b0, b1⟩ := spec_Generator.mono_l k
 unfold spec_Generator.f
 exact (by repeat' (with_reducible first | exact b0 _ _ | exact b1 _ _ | exact LeO.refl _ | exact LeO.none _ | refine LeO.ite ?_ ?_ | refine LeO.bind ?_ (fun _ => ?_)))
theorem spec_Generator.calls (k : Nat) (a0 : Int) (r : Int) (w : World) (h : spec_Generator.f k a0 = some r) :
 Calls Try.prog 119 #[.int .i64 a0] w fun e w' => e = .returned (.int .i64 r) ∧ Drawn0 w w' := by
 have H : (if a0 = 0 then (spec_Generator.j0 k a0 (a0 == 0)) else (if a0 = 3 then (spec_Generator.j0 k a0 (a0 == 3)) else (if a0 = 6 then (spec_Generator.j0 k a0 (a0 == 6)) else (if a0 = 7 then (spec_Generator.j0 k a0 (a0 == 7)) else (spec_Generator.j0 k a0 (a0 == 8)))))) = some r := h; clear h; have x0 := ak H; clear H; go_enter Try.func119, Try.ntmps119
 go_upto_if 4 with (fail)
 go_cut [4] (fun v4 wc => ∃ (kq : Nat) (W0 : Bool), v4 = .bool W0 ∧ Aside0 (spec_Generator.j0 kq a0 W0 = some r) ∧ Aside0 (kq ≤ k) ∧ Drawn0 w wc)
 case first =>
  have H := x0.out; clear x0
  by_cases c3 : a0 = 0
  · rw [if_pos c3] at H; have N0 : (a0 == 0) = true := beq_iff_eq.mpr c3; have N1 : (a0 != 0) = false := bne_eq_false_iff_eq.mpr c3; clear c3; (first | rw [N0] | (simp only [i64_w, i32_w]; rw [N0]) | skip)
    have H' := ak H; clear H; go_wp2
    go_meet
    case rel => exact ⟨_, ((a0 == 0)), eqA, H', ⟨xq11⟩, xq3⟩
  rw [if_neg c3] at H; have N0 : (a0 == 0) = false := beq_eq_false_iff_ne.mpr c3; have N1 : (a0 != 0) = true := bne_iff_ne.mpr c3; (first | rw [N0] | (simp only [i64_w, i32_w]; rw [N0]) | skip)
  by_cases c4 : a0 = 3
  · rw [if_pos c4] at H; have N2 : (a0 == 3) = true := beq_iff_eq.mpr c4; have N3 : (a0 != 3) = false := bne_eq_false_iff_eq.mpr c4; clear c4; have H' := ak H; clear H; go_wp2
    go_meet
    case rel => exact ⟨_, ((a0 == 3)), eqA, H', ⟨xq11⟩, xq3⟩
  rw [if_neg c4] at H; have N2 : (a0 == 3) = false := beq_eq_false_iff_ne.mpr c4; have N3 : (a0 != 3) = true := bne_iff_ne.mpr c4
  by_cases c5 : a0 = 6
  · rw [if_pos c5] at H; have N4 : (a0 == 6) = true := beq_iff_eq.mpr c5; have N5 : (a0 != 6) = false := bne_eq_false_iff_eq.mpr c5; clear c5; have H' := ak H; clear H; go_wp2
    go_meet
    case rel => exact ⟨_, ((a0 == 6)), eqA, H', ⟨xq11⟩, xq3⟩
  rw [if_neg c5] at H; have N4 : (a0 == 6) = false := beq_eq_false_iff_ne.mpr c5; have N5 : (a0 != 6) = true := bne_iff_ne.mpr c5
  by_cases c6 : a0 = 7; rotate_left
  · rw [if_neg c6] at H; have N6 : (a0 == 7) = false := beq_eq_false_iff_ne.mpr c6; have N7 : (a0 != 7) = true := bne_iff_ne.mpr c6; have H' := ak H; clear H; go_wp2
    go_meet
    case rel => exact ⟨_, ((a0 == 8)), eqA, H', ⟨xq11⟩, xq3⟩
  rw [if_pos c6] at H; have N6 : (a0 == 7) = true := beq_iff_eq.mpr c6; have N7 : (a0 != 7) = false := bne_eq_false_iff_eq.mpr c6; clear c6; have H' := ak H; clear H; go_wp2
  go_meet
  case rel => exact ⟨_, ((a0 == 7)), eqA, H', ⟨xq11⟩, xq3⟩
 case rest =>
  clear x0; obtain ⟨kq, W0, rfl, HA, t0, ⟨W1, rfl⟩⟩ := hcut
  cases kq with
  | zero => exact absurd HA.out (by simp [spec_Generator.j0])
  | succ g0 =>
   have H := HA.out; clear HA; simp only [spec_Generator.j0] at H
   by_cases c7 : W0 = true
   · subst c7; have H1 : (some 3) = some r := by rw [if_pos rfl] at H; exact H
     clear H; have H := H1; clear H1; obtain rfl := Option.some.inj H; go_wp2
     go_ret
     exact ⟨xq7, xq3⟩
   replace c7 := Bool.eq_false_iff.mpr c7; subst c7; have H1 : (if a0 = 1 then (spec_Generator.j1 g0 a0 (a0 == 1)) else (spec_Generator.j1 g0 a0 (a0 == 2))) = some r := by rw [if_neg (show ¬ (false = true) by decide)] at H; exact H
   clear H; have H := H1; clear H1; have x1 := ak H; clear H; go_upto_if 10 with (fail)
   go_cut [10] (fun d0 wc => ∃ (kq : Nat) (W2 : Bool), d0 = .bool W2 ∧ Aside0 (spec_Generator.j1 kq a0 W2 = some r) ∧ Aside0 (kq ≤ g0) ∧ Drawn0 w wc)
   case first =>
    have H := x1.out; clear x1
    by_cases c9 : a0 = 1; rotate_left
    · rw [if_neg c9] at H; have N8 : (a0 == 1) = false := beq_eq_false_iff_ne.mpr c9; have N9 : (a0 != 1) = true := bne_iff_ne.mpr c9; (first | rw [N8] | (simp only [i64_w, i32_w]; rw [N8]) | skip)
      have H' := ak H; clear H; go_wp2
      go_meet
      case rel => exact ⟨_, ((a0 == 2)), eqA, H', ⟨xq31⟩, xq3⟩
    rw [if_pos c9] at H; have N8 : (a0 == 1) = true := beq_iff_eq.mpr c9; have N9 : (a0 != 1) = false := bne_eq_false_iff_eq.mpr c9; clear c9; (first | rw [N8] | (simp only [i64_w, i32_w]; rw [N8]) | skip)
    have H' := ak H; clear H; go_wp2
    go_meet
    case rel => exact ⟨_, ((a0 == 1)), eqA, H', ⟨xq31⟩, xq3⟩
   case rest =>
    clear x1; obtain ⟨kq, W2, rfl, HA, t1, ⟨W3, rfl⟩⟩ := hcut
    cases kq with
    | zero => exact absurd HA.out (by simp [spec_Generator.j1])
    | succ g1 =>
     have H := HA.out; clear HA; simp only [spec_Generator.j1] at H
     by_cases c10 : W2 = true
     · subst c10; have H1 : (some 5) = some r := by rw [if_pos rfl] at H; exact H
       clear H; have H := H1; clear H1; obtain rfl := Option.some.inj H; go_wp2
       go_ret
       exact ⟨xq7, xq3⟩
     replace c10 := Bool.eq_false_iff.mpr c10; subst c10; have H1 : (if a0 = 4 then (some 17) else (if a0 = 5 then (some 11) else (some 0))) = some r := by rw [if_neg (show ¬ (false = true) by decide)] at H; exact H
     clear H; have H := H1; clear H1
     by_cases Na : a0 = 4
     · rw [if_pos Na] at H; have Nb : (a0 == 4) = true := beq_iff_eq.mpr Na; have Nc : (a0 != 4) = false := bne_eq_false_iff_eq.mpr Na; clear Na; obtain rfl := Option.some.inj H; go_wp2
       go_ret
       exact ⟨xq7, xq3⟩
     rw [if_neg Na] at H; have Nb : (a0 == 4) = false := beq_eq_false_iff_ne.mpr Na; have Nc : (a0 != 4) = true := bne_iff_ne.mpr Na
     by_cases Nd : a0 = 5; rotate_left
     · rw [if_neg Nd] at H; have Ne : (a0 == 5) = false := beq_eq_false_iff_ne.mpr Nd; have Nf : (a0 != 5) = true := bne_iff_ne.mpr Nd; obtain rfl := Option.some.inj H; go_wp2
       go_ret
       exact ⟨xq7, xq3⟩
     rw [if_pos Nd] at H; have Ne : (a0 == 5) = true := beq_iff_eq.mpr Nd; have Nf : (a0 != 5) = false := bne_eq_false_iff_eq.mpr Nd; clear Nd; obtain rfl := Option.some.inj H; go_wp2
     go_ret
     exact ⟨xq7, xq3⟩

def spec_RootOf.j0 : Nat → Int → Int → Bool → Option (Int)
 | 0, _, _, _ => none
 | k + 1, x0, x1, x14 => if x14 = true then (some (-1)) else ((spec_Generator.f k x0).bind fun t287 => ((spec_Modulus.f x0).bind fun t288 => (if 0 ≤ (IntKind.u64.wrap (x1)) then ((spec_Power.f k x0 t287 (shr .i64 (wrap64 (t288 - 1)) (IntKind.u64.wrap (x1)))).bind fun t289 => (some t289)) else (none))))
def spec_RootOf.f (k : Nat) (a0 : Int) (a1 : Int) : Option (Int) := (spec_Modulus.f a0).bind fun t284 => (if t284 = 0 then (spec_RootOf.j0 k a0 a1 true) else ((spec_TwoPower.f k a0).bind fun t285 => ((spec_l01In.f a1 0 t285).bind fun t286 => (spec_RootOf.j0 k a0 a1 (!t286)))))
theorem spec_RootOf.mono_l : ∀ k, (∀ y0 y1 y2, LeO (spec_RootOf.j0 k y0 y1 y2) (spec_RootOf.j0 (k + 1) y0 y1 y2))
 | 0 => fun _ _ _ r h => by simp [spec_RootOf.j0] at h
 | k + 1 => by
  have ih0 := spec_RootOf.mono_l k
  · intro y0 y1 y2; unfold spec_RootOf.j0; exact (by repeat' (with_reducible first | exact ih0 _ _ _ | exact spec_Generator.mono _ _ | exact spec_Power.mono _ _ _ _ | exact spec_TwoPower.mono _ _ | exact LeO.refl _ | exact LeO.none _ | refine LeO.ite ?_ ?_ | refine LeO.bind ?_ (fun _ => ?_)))
theorem spec_RootOf.mono : ∀ a0 a1 k, LeO (spec_RootOf.f k a0 a1) (spec_RootOf.f (k + 1) a0 a1) := by
 intro a0 a1 k; have b0 := spec_RootOf.mono_l k
 unfold spec_RootOf.f
 exact (by repeat' (with_reducible first | exact b0 _ _ _ | exact spec_Generator.mono _ _ | exact spec_Power.mono _ _ _ _ | exact spec_TwoPower.mono _ _ | exact LeO.refl _ | exact LeO.none _ | refine LeO.ite ?_ ?_ | refine LeO.bind ?_ (fun _ => ?_)))
theorem spec_RootOf.calls (k : Nat) (a0 : Int) (a1 : Int) (r : Int) (w : World) (h : spec_RootOf.f k a0 a1 = some r) :
 Calls Try.prog 65 #[.int .i64 a0, .int .i64 a1] w fun e w' => e = .returned (.int .i64 r) ∧ Drawn0 w w' := by
 have H : ((spec_Modulus.f a0).bind fun z0 => (if z0 = 0 then (spec_RootOf.j0 k a0 a1 true) else ((spec_TwoPower.f k a0).bind fun z1 => ((spec_l01In.f a1 0 z1).bind fun z2 => (spec_RootOf.j0 k a0 a1 (!z2)))))) = some r := h; clear h; have x0 := ak H; clear H; go_enter Try.func65, Try.ntmps65
 go_upto_region 1 with (fail)
 go_cut [14] (fun d0 wc => ∃ (kq : Nat) (W0 : Bool), d0 = .bool W0 ∧ Aside0 (spec_RootOf.j0 kq a0 a1 W0 = some r) ∧ Aside0 (kq ≤ k) ∧ Drawn0 w wc)
 case first =>
  have H := x0.out; clear x0; replace H := Option.bind_eq_some_iff.mp H; obtain ⟨z0, Z0, H⟩ := H; (try dsimp only at H); have A4 := ak Z0; clear Z0
  by_cases c5 : z0 = 0
  · rw [if_pos c5] at H; have N0 : (z0 == 0) = true := beq_iff_eq.mpr c5; have N1 : (z0 != 0) = false := bne_eq_false_iff_eq.mpr c5; clear c5; (first | rw [N0] | (simp only [i64_w, i32_w]; rw [N0]) | skip)
    have H' := ak H; clear H; go_wp2_with (first | ((with_reducible refine gate_callee (f := 117) rfl ?_); refine goB 6 Try.func117 #[.int .i64 a0] rfl ?_; (with_reducible refine (spec_Modulus.calls a0 z0 _ A4.out).mono ?_); rintro e w' ⟨rfl, ⟨nd, rfl⟩⟩; refine ⟨_, rfl, ?_⟩))
    go_meet
    case rel => exact ⟨_, (true), eqA, H', ⟨xq11⟩, xq3⟩
  rw [if_neg c5] at H; have N0 : (z0 == 0) = false := beq_eq_false_iff_ne.mpr c5; have N1 : (z0 != 0) = true := bne_iff_ne.mpr c5; (first | rw [N0] | (simp only [i64_w, i32_w]; rw [N0]) | skip)
  replace H := Option.bind_eq_some_iff.mp H; obtain ⟨z1, Z1, H⟩ := H; (try dsimp only at H); have A6 := ak Z1; clear Z1; replace H := Option.bind_eq_some_iff.mp H; obtain ⟨z2, Z2, H⟩ := H; (try dsimp only at H); have A7 := ak Z2; clear Z2; have H' := ak H; clear H; go_wp2_with (first | ((with_reducible refine gate_callee (f := 117) rfl ?_); refine goB 6 Try.func117 #[.int .i64 a0] rfl ?_; (with_reducible refine (spec_Modulus.calls a0 z0 _ A4.out).mono ?_); rintro e w' ⟨rfl, ⟨nd, rfl⟩⟩; refine ⟨_, rfl, ?_⟩) | (go_at_call 112; (with_reducible refine (spec_TwoPower.calls k a0 z1 _ A6.out).mono ?_); rintro e w' ⟨rfl, ⟨nd, rfl⟩⟩) | (go_at_call 60; (with_reducible refine (spec_l01In.calls a1 0 z1 z2 _ A7.out).mono ?_); rintro e w' ⟨rfl, ⟨nd, rfl⟩⟩))
  go_meet
  case rel => exact ⟨_, (!z2), eqA, H', ⟨xq11⟩, xq3⟩
 case rest =>
  clear x0; obtain ⟨kq, W0, rfl, HA, t0, ⟨W1, rfl⟩⟩ := hcut
  cases kq with
  | zero => exact absurd HA.out (by simp [spec_RootOf.j0])
  | succ g0 =>
   have H := HA.out; clear HA; simp only [spec_RootOf.j0] at H
   by_cases c8 : W0 = true
   · subst c8; have H1 : (some (-1)) = some r := by rw [if_pos rfl] at H; exact H
     clear H; have H := H1; clear H1; obtain rfl := Option.some.inj H; go_wp2
     go_ret
     exact ⟨xq7, xq3⟩
   replace c8 := Bool.eq_false_iff.mpr c8; subst c8; have H1 : ((spec_Generator.f g0 a0).bind fun z3 => ((spec_Modulus.f a0).bind fun z4 => (if 0 ≤ (IntKind.u64.wrap (a1)) then ((spec_Power.f g0 a0 z3 (shr .i64 (wrap64 (z4 - 1)) (IntKind.u64.wrap (a1)))).bind fun z5 => (some z5)) else (none)))) = some r := by rw [if_neg (show ¬ (false = true) by decide)] at H; exact H
   clear H; have H := H1; clear H1; replace H := Option.bind_eq_some_iff.mp H; obtain ⟨z3, Z3, H⟩ := H; (try dsimp only at H); have A9 := ak Z3; clear Z3; replace H := Option.bind_eq_some_iff.mp H; obtain ⟨z4, Z4, H⟩ := H; (try dsimp only at H); have Z5 := ak Z4; clear Z4; obtain ⟨J0, G0⟩ : ∃ j_ : Int, (IntKind.u64.wrap (a1)) = j_ := ⟨_, rfl⟩; replace H : (if 0 ≤ (J0) then ((spec_Power.f g0 a0 z3 (shr .i64 (wrap64 (z4 - 1)) (J0))).bind fun z5 => (some z5)) else (none)) = some r := by first | (rw [G0] at H; exact H) | (simp only [G0] at H ⊢; exact H)
   (try rw [G0] at A9)
   (try rw [G0] at Z5)
   by_cases N2 : 0 ≤ (J0); rotate_left
   · rw [if_neg N2] at H; exact absurd H (by simp)
   rw [if_pos N2] at H; have N3 := eq_true N2; have N4 : decide (0 ≤ (J0)) = true := decide_eq_true N2; clear N2; obtain ⟨J1, G1⟩ : ∃ j_ : Int, (shr .i64 (wrap64 (z4 - 1)) (J0)) = j_ := ⟨_, rfl⟩; replace H : ((spec_Power.f g0 a0 z3 (J1)).bind fun z5 => (some z5)) = some r := by first | (rw [G1] at H; exact H) | (simp only [G1] at H ⊢; exact H)
   (try rw [G1] at A9)
   (try rw [G1] at Z5)
   have G2 : ((wrap64 (z4 - 1)) / 2 ^ min (J0).toNat 64) = J1 := G1; have hji13z : (J0) ≤ 64 → ((wrap64 (z4 - 1)) / 2 ^ (J0).toNat) = J1 := shr_small G1; replace H := Option.bind_eq_some_iff.mp H; obtain ⟨z5, Z6, H⟩ := H; (try dsimp only at H); have Z7 := ak Z6; clear Z6; obtain rfl := Option.some.inj H; go_wp2_with (first | ((with_reducible refine gate_callee (f := 119) rfl ?_); refine goB 17 Try.func119 #[.int .i64 a0] rfl ?_; (with_reducible refine (spec_Generator.calls g0 a0 z3 _ A9.out).mono ?_); rintro e w' ⟨rfl, ⟨nd, rfl⟩⟩; refine ⟨_, rfl, ?_⟩) | ((with_reducible refine gate_callee (f := 117) rfl ?_); refine goB 19 Try.func117 #[.int .i64 a0] rfl ?_; (with_reducible refine (spec_Modulus.calls a0 z4 _ Z5.out).mono ?_); rintro e w' ⟨rfl, ⟨nd, rfl⟩⟩; refine ⟨_, rfl, ?_⟩) | ((with_reducible refine gate_callee (f := 118) rfl ?_); refine goesL_ (some 24) rfl rfl Try.func118 (by kernel_rfl) rfl #[.int .i64 a0, .int .i64 z3, .int .i64 J1] rfl xq80 ?_; (with_reducible refine (spec_Power.calls g0 a0 z3 J1 z5 _ Z7.out).mono ?_); rintro e w' ⟨rfl, ⟨nd, rfl⟩⟩; refine ⟨_, rfl, ?_⟩))
   go_ret
   exact ⟨xq119, xq3⟩

def spec_Forward.f (k : Nat) (a0 : Int) (l1 : List Int) : Option (List Int) := (spec_VectorOk.f k a0 l1).bind fun t290 => (if t290 = true then ((spec_LogOf.f k (l1.length : Int)).bind fun t291 => ((spec_RootOf.f k a0 t291).bind fun t292 => ((spec_l04Sum.f k a0 l1 t292).bind fun t293 => (some t293)))) else (some ([] : List Int)))
theorem spec_Forward.mono : ∀ a0 a1 k, LeO (spec_Forward.f k a0 a1) (spec_Forward.f (k + 1) a0 a1) := by
 intro a0 a1 k
 unfold spec_Forward.f
 exact (by repeat' (with_reducible first | exact spec_LogOf.mono _ _ | exact spec_RootOf.mono _ _ _ | exact spec_VectorOk.mono _ _ _ | exact spec_l04Sum.mono _ _ _ _ | exact LeO.refl _ | exact LeO.none _ | refine LeO.ite ?_ ?_ | refine LeO.bind ?_ (fun _ => ?_)))
theorem spec_Forward.calls (k : Nat) (a0 : Int) (A1 : Option Addr) (c1 : Nat) (l1 : List Int) (r : List Int) (w : World) (hr1 : Kd.C (Kd.int .i64) w A1 l1.length l1) (hc1 : l1.length ≤ c1) (h : spec_Forward.f k a0 l1 = some r) :
 Calls Try.prog 12 #[.int .i64 a0, .slice A1 l1.length c1] w fun e w' => ∃ v0_ : Value, e = .returned (v0_) ∧ Kd.R (Kd.int .i64) 3 w' w.heap.size (fun _ => True) v0_ r ∧ Below w.heap.size w w' := by
 have g0 := ak hr1; have x0 := ak hc1; clear hr1 hc1; have HB := ak (Below.refl w.heap.size w); have H : ((spec_VectorOk.f k a0 l1).bind fun z0 => (if z0 = true then ((spec_LogOf.f k (l1.length : Int)).bind fun z1 => ((spec_RootOf.f k a0 z1).bind fun z2 => ((spec_l04Sum.f k a0 l1 z2).bind fun z3 => (some z3)))) else (some ([] : List Int)))) = some r := h; clear h; replace H := Option.bind_eq_some_iff.mp H; obtain ⟨z0, Z0, H⟩ := H; (try dsimp only at H); have A3 := ak Z0; clear Z0
 by_cases c4 : z0 = true; rotate_left
 · replace c4 := Bool.eq_false_iff.mpr c4; subst c4; have H1 : (some ([] : List Int)) = some r := by rw [if_neg (show ¬ (false = true) by decide)] at H; exact H
   clear H; have H := H1; clear H1; obtain rfl := Option.some.inj H; go_enter Try.func12, Try.ntmps12
   go_wp2_with (first | ((with_reducible refine gate_callee (f := 63) rfl ?_); refine goB 7 Try.func63 #[.int .i64 a0, .slice A1 l1.length c1] rfl ?_; (with_reducible refine (spec_VectorOk.calls k a0 _ _ l1 false _ ?side1 ?side2 A3.out).mono ?_); (case side1 => exact cA g0.out); (case side2 => exact x0.out); rintro e w' ⟨rfl, ⟨nd, rfl⟩⟩; refine ⟨_, rfl, ?_⟩))
   go_ret
   exact ⟨_, xq1, xq13, belA⟩
 subst c4; have H1 : ((spec_LogOf.f k (l1.length : Int)).bind fun z1 => ((spec_RootOf.f k a0 z1).bind fun z2 => ((spec_l04Sum.f k a0 l1 z2).bind fun z3 => (some z3)))) = some r := by rw [if_pos rfl] at H; exact H
 clear H; have H := H1; clear H1; replace H := Option.bind_eq_some_iff.mp H; obtain ⟨z1, Z1, H⟩ := H; (try dsimp only at H); have A5 := ak Z1; clear Z1; replace H := Option.bind_eq_some_iff.mp H; obtain ⟨z2, Z2, H⟩ := H; (try dsimp only at H); have A6 := ak Z2; clear Z2; replace H := Option.bind_eq_some_iff.mp H; obtain ⟨z3, Z3, H⟩ := H; (try dsimp only at H); have A7 := ak Z3; clear Z3; obtain rfl := Option.some.inj H; go_enter Try.func12, Try.ntmps12
 go_wp2_with (first | ((with_reducible refine gate_callee (f := 63) rfl ?_); refine goB 7 Try.func63 #[.int .i64 a0, .slice A1 l1.length c1] rfl ?_; (with_reducible refine (spec_VectorOk.calls k a0 _ _ l1 true _ ?side1 ?side2 A3.out).mono ?_); (case side1 => exact cA g0.out); (case side2 => exact x0.out); rintro e w' ⟨rfl, ⟨nd, rfl⟩⟩; refine ⟨_, rfl, ?_⟩) | ((with_reducible refine gate_callee (f := 66) rfl ?_); refine goB 14 Try.func66 #[.int .i64 (l1.length : Int)] rfl ?_; (with_reducible refine (spec_LogOf.calls k (l1.length : Int) z1 _ A5.out).mono ?_); rintro e w' ⟨rfl, ⟨nd, rfl⟩⟩; refine ⟨_, rfl, ?_⟩) | ((with_reducible refine gate_callee (f := 65) rfl ?_); refine goB 15 Try.func65 #[.int .i64 a0, .int .i64 z1] rfl ?_; (with_reducible refine (spec_RootOf.calls k a0 z1 z2 _ A6.out).mono ?_); rintro e w' ⟨rfl, ⟨nd, rfl⟩⟩; refine ⟨_, rfl, ?_⟩) | ((with_reducible refine gate_callee (f := 64) rfl ?_); refine goB 16 Try.func64 #[.int .i64 a0, .slice A1 l1.length c1, .int .i64 z2] rfl ?_; (with_reducible refine (spec_l04Sum.calls k a0 _ _ l1 z2 z3 _ ?side1 ?side2 A7.out).mono ?_); (case side1 => exact cA g0.out); (case side2 => exact x0.out); rintro e w8 ⟨d0, rfl, D0, hb⟩; refine ⟨_, rfl, ?_⟩; have f0 := rL D0; replace HB := bS hb; (try clear hb D0)))
 go_ret
 exact ⟨_, xq1, xq122, belA⟩

def spec_l09Log.f (k : Nat) (a0 : Int) (a1 : Int) : Option (Bool) := (spec_Modulus.f a0).bind fun t296 => (if t296 > 0 then ((spec_l01In.f a1 0 9).bind fun t297 => (if t297 = true then ((spec_TwoPower.f k a0).bind fun t298 => (some (decide (a1 ≤ t298)))) else (some false))) else (some false))
theorem spec_l09Log.mono : ∀ a0 a1 k, LeO (spec_l09Log.f k a0 a1) (spec_l09Log.f (k + 1) a0 a1) := by
 intro a0 a1 k
 unfold spec_l09Log.f
 exact (by repeat' (with_reducible first | exact spec_TwoPower.mono _ _ | exact LeO.refl _ | exact LeO.none _ | refine LeO.ite ?_ ?_ | refine LeO.bind ?_ (fun _ => ?_)))
theorem spec_l09Log.calls (k : Nat) (a0 : Int) (a1 : Int) (r : Bool) (w : World) (h : spec_l09Log.f k a0 a1 = some r) :
 Calls Try.prog 86 #[.int .i64 a0, .int .i64 a1] w fun e w' => e = .returned (.bool r) ∧ Drawn0 w w' := by
 have H : ((spec_Modulus.f a0).bind fun z0 => (if z0 > 0 then ((spec_l01In.f a1 0 9).bind fun z1 => (if z1 = true then ((spec_TwoPower.f k a0).bind fun z2 => (some (decide (a1 ≤ z2)))) else (some false))) else (some false))) = some r := h; clear h; replace H := Option.bind_eq_some_iff.mp H; obtain ⟨z0, Z0, H⟩ := H; (try dsimp only at H); have A3 := ak Z0; clear Z0
 by_cases c4 : z0 > 0; rotate_left
 · rw [if_neg c4] at H; have N0 : decide (0 < z0) = false := decide_eq_false c4; clear c4; obtain rfl := Option.some.inj H; go_enter Try.func86, Try.ntmps86
   go_wp2_with (first | ((with_reducible refine gate_callee (f := 117) rfl ?_); refine goB 6 Try.func117 #[.int .i64 a0] rfl ?_; (with_reducible refine (spec_Modulus.calls a0 z0 _ A3.out).mono ?_); rintro e w' ⟨rfl, ⟨nd, rfl⟩⟩; refine ⟨_, rfl, ?_⟩))
   go_ret
   exact ⟨xq7, xq3⟩
 rw [if_pos c4] at H; have N0 : decide (0 < z0) = true := decide_eq_true c4; clear c4; replace H := Option.bind_eq_some_iff.mp H; obtain ⟨z1, Z1, H⟩ := H; (try dsimp only at H); have A5 := ak Z1; clear Z1
 by_cases c6 : z1 = true; rotate_left
 · replace c6 := Bool.eq_false_iff.mpr c6; subst c6; have H1 : (some false) = some r := by rw [if_neg (show ¬ (false = true) by decide)] at H; exact H
   clear H; have H := H1; clear H1; obtain rfl := Option.some.inj H; go_enter Try.func86, Try.ntmps86
   go_wp2_with (first | ((with_reducible refine gate_callee (f := 117) rfl ?_); refine goB 6 Try.func117 #[.int .i64 a0] rfl ?_; (with_reducible refine (spec_Modulus.calls a0 z0 _ A3.out).mono ?_); rintro e w' ⟨rfl, ⟨nd, rfl⟩⟩; refine ⟨_, rfl, ?_⟩) | (go_at_call 60; (with_reducible refine (spec_l01In.calls a1 0 9 false _ A5.out).mono ?_); rintro e w' ⟨rfl, ⟨nd, rfl⟩⟩))
   go_ret
   exact ⟨xq7, xq3⟩
 subst c6; have H1 : ((spec_TwoPower.f k a0).bind fun z2 => (some (decide (a1 ≤ z2)))) = some r := by rw [if_pos rfl] at H; exact H
 clear H; have H := H1; clear H1; replace H := Option.bind_eq_some_iff.mp H; obtain ⟨z2, Z2, H⟩ := H; (try dsimp only at H); have A7 := ak Z2; clear Z2; obtain rfl := Option.some.inj H; go_enter Try.func86, Try.ntmps86
 go_wp2_with (first | ((with_reducible refine gate_callee (f := 117) rfl ?_); refine goB 6 Try.func117 #[.int .i64 a0] rfl ?_; (with_reducible refine (spec_Modulus.calls a0 z0 _ A3.out).mono ?_); rintro e w' ⟨rfl, ⟨nd, rfl⟩⟩; refine ⟨_, rfl, ?_⟩) | (go_at_call 60; (with_reducible refine (spec_l01In.calls a1 0 9 true _ A5.out).mono ?_); rintro e w' ⟨rfl, ⟨nd, rfl⟩⟩) | (go_at_call 112; (with_reducible refine (spec_TwoPower.calls k a0 z2 _ A7.out).mono ?_); rintro e w' ⟨rfl, ⟨nd, rfl⟩⟩))
 go_ret
 exact ⟨xq7, xq3⟩

def spec_l09Run.f (a0 : Int) (a1_0 : Int) (a1_1 : Int) (a1_2 : Int) : Option (Bool) := (spec_l01In.f a1_0 0 (wrap64 (a0 - 1))).bind fun t300 => (if t300 = true then (if 0 ≤ a1_1 then (if a1_1 < a1_2 then (if 0 ≤ (IntKind.u64.wrap (a0)) then (some (decide (a1_2 ≤ (wrap64 (Int.tdiv (shl .i64 1 (IntKind.u64.wrap (a0))) 2))))) else (none)) else (some false)) else (some false)) else (some false))
theorem spec_l09Run.calls (a0 : Int) (a1_0 : Int) (a1_1 : Int) (a1_2 : Int) (r : Bool) (w : World) (h : spec_l09Run.f a0 a1_0 a1_1 a1_2 = some r) :
 Calls Try.prog 87 #[.int .i64 a0, .agg #[.int .i64 a1_0, .int .i64 a1_1, .int .i64 a1_2]] w fun e w' => e = .returned (.bool r) ∧ Below w.heap.size w w' := by
 have B0 := Try.underlying36; have HB := ak (Below.refl w.heap.size w); have H : ((spec_l01In.f a1_0 0 (wrap64 (a0 - 1))).bind fun z0 => (if z0 = true then (if 0 ≤ a1_1 then (if a1_1 < a1_2 then (if 0 ≤ (IntKind.u64.wrap (a0)) then (some (decide (a1_2 ≤ (wrap64 (Int.tdiv (shl .i64 1 (IntKind.u64.wrap (a0))) 2))))) else (none)) else (some false)) else (some false)) else (some false))) = some r := h; clear h; replace H := Option.bind_eq_some_iff.mp H; obtain ⟨z0, Z0, H⟩ := H; (try dsimp only at H); have A3 := ak Z0; clear Z0
 by_cases c4 : z0 = true; rotate_left
 · replace c4 := Bool.eq_false_iff.mpr c4; subst c4; have H1 : (some false) = some r := by rw [if_neg (show ¬ (false = true) by decide)] at H; exact H
   clear H; have H := H1; clear H1; obtain rfl := Option.some.inj H; go_enter Try.func87, Try.ntmps87
   go_wp2_with (first | ((with_reducible refine gate_dst (N := 3) rfl ?_); refine boxA 3 #[.int .i64 a1_0, .int .i64 a1_1, .int .i64 a1_2] 36 ?_; intro c0 hg k0 hbox hb; have C0 := ak hbox; have y0 := leA (w := w) hg; have Y0 := leA (w := w) hg; replace HB := bS hb; clear hb hbox hg; obtain ⟨_, _, _, _, _, _⟩ := cel3 C0) | ((with_reducible refine gate_callee (f := 60) rfl ?_); refine goB 9 Try.func60 #[.int .i64 a1_0, .int .i64 0, .int .i64 (wrap64 (a0 - 1))] rfl ?_; (with_reducible refine (spec_l01In.calls a1_0 0 (wrap64 (a0 - 1)) false _ A3.out).mono ?_); rintro e w' ⟨rfl, ⟨nd, rfl⟩⟩; refine ⟨_, rfl, ?_⟩))
   go_ret
   exact ⟨xq1, belA⟩
 subst c4; have H1 : (if 0 ≤ a1_1 then (if a1_1 < a1_2 then (if 0 ≤ (IntKind.u64.wrap (a0)) then (some (decide (a1_2 ≤ (wrap64 (Int.tdiv (shl .i64 1 (IntKind.u64.wrap (a0))) 2))))) else (none)) else (some false)) else (some false)) = some r := by rw [if_pos rfl] at H; exact H
 clear H; have H := H1; clear H1
 by_cases c5 : 0 ≤ a1_1; rotate_left
 · rw [if_neg c5] at H; have N0 := decide_eq_false c5; clear c5; obtain rfl := Option.some.inj H; go_enter Try.func87, Try.ntmps87
   go_wp2_with (first | ((with_reducible refine gate_dst (N := 3) rfl ?_); refine boxA 3 #[.int .i64 a1_0, .int .i64 a1_1, .int .i64 a1_2] 36 ?_; intro c0 hg k1 hbox hb; have C0 := ak hbox; have y0 := leA (w := w) hg; have Y0 := leA (w := w) hg; replace HB := bS hb; clear hb hbox hg; obtain ⟨_, _, _, _, _, _⟩ := cel3 C0) | ((with_reducible refine gate_callee (f := 60) rfl ?_); refine goB 9 Try.func60 #[.int .i64 a1_0, .int .i64 0, .int .i64 (wrap64 (a0 - 1))] rfl ?_; (with_reducible refine (spec_l01In.calls a1_0 0 (wrap64 (a0 - 1)) true _ A3.out).mono ?_); rintro e w' ⟨rfl, ⟨nd, rfl⟩⟩; refine ⟨_, rfl, ?_⟩))
   go_ret
   exact ⟨xq1, belA⟩
 rw [if_pos c5] at H; have N0 := decide_eq_true c5; clear c5
 by_cases c6 : a1_1 < a1_2; rotate_left
 · rw [if_neg c6] at H; have N1 := decide_eq_false c6; clear c6; obtain rfl := Option.some.inj H; go_enter Try.func87, Try.ntmps87
   go_wp2_with (first | ((with_reducible refine gate_dst (N := 3) rfl ?_); refine boxA 3 #[.int .i64 a1_0, .int .i64 a1_1, .int .i64 a1_2] 36 ?_; intro c0 hg k2 hbox hb; have C0 := ak hbox; have y0 := leA (w := w) hg; have Y0 := leA (w := w) hg; replace HB := bS hb; clear hb hbox hg; obtain ⟨_, _, _, _, _, _⟩ := cel3 C0) | ((with_reducible refine gate_callee (f := 60) rfl ?_); refine goB 9 Try.func60 #[.int .i64 a1_0, .int .i64 0, .int .i64 (wrap64 (a0 - 1))] rfl ?_; (with_reducible refine (spec_l01In.calls a1_0 0 (wrap64 (a0 - 1)) true _ A3.out).mono ?_); rintro e w' ⟨rfl, ⟨nd, rfl⟩⟩; refine ⟨_, rfl, ?_⟩))
   go_ret
   exact ⟨xq1, belA⟩
 rw [if_pos c6] at H; have N1 := decide_eq_true c6; clear c6; obtain ⟨J0, G0⟩ : ∃ j_ : Int, (IntKind.u64.wrap (a0)) = j_ := ⟨_, rfl⟩; replace H : (if 0 ≤ (J0) then (some (decide (a1_2 ≤ (wrap64 (Int.tdiv (shl .i64 1 (J0)) 2))))) else (none)) = some r := by first | (rw [G0] at H; exact H) | (simp only [G0] at H ⊢; exact H)
 (try rw [G0] at A3)
 by_cases c8 : 0 ≤ (J0); rotate_left
 · rw [if_neg c8] at H; exact absurd H (by simp)
 rw [if_pos c8] at H; have N2 := eq_true c8; have N3 : decide (0 ≤ (J0)) = true := decide_eq_true c8; clear c8; obtain ⟨J1, G1⟩ : ∃ j_ : Int, (shl .i64 1 (J0)) = j_ := ⟨_, rfl⟩; replace H : (some (decide (a1_2 ≤ (wrap64 (Int.tdiv (J1) 2))))) = some r := by first | (rw [G1] at H; exact H) | (simp only [G1] at H ⊢; exact H)
 (try rw [G1] at A3)
 have G2 : (IntKind.i64.wrap (1 * 2 ^ min (J0).toNat 64)) = J1 := G1; have hji9z : (J0) ≤ 64 → (IntKind.i64.wrap (1 * 2 ^ (J0).toNat)) = J1 := shl_small G1; have hji9u : (IntKind.i64.wrap (2 ^ min (J0).toNat 64)) = J1 := by have h_ := G2; rw [Int.one_mul] at h_; exact h_
 have hji9v : (J0) ≤ 64 → (IntKind.i64.wrap (2 ^ (J0).toNat)) = J1 := fun hle_ => by have h_ := hji9z hle_; rw [Int.one_mul] at h_; exact h_
 have hji9y : (wrap64 (1 * 2 ^ min (J0).toNat 64)) = J1 := (i64_w _).symm.trans G2; have hji9x : (J0) ≤ 64 → (wrap64 (1 * 2 ^ (J0).toNat)) = J1 := fun h_ => (i64_w _).symm.trans (hji9z h_)
 obtain rfl := Option.some.inj H; go_enter Try.func87, Try.ntmps87
 go_wp2_with (first | ((with_reducible refine gate_dst (N := 3) rfl ?_); refine boxA 3 #[.int .i64 a1_0, .int .i64 a1_1, .int .i64 a1_2] 36 ?_; intro c0 hg k3 hbox hb; have C0 := ak hbox; have y0 := leA (w := w) hg; have Y0 := leA (w := w) hg; replace HB := bS hb; clear hb hbox hg; obtain ⟨_, _, _, _, _, _⟩ := cel3 C0) | ((with_reducible refine gate_callee (f := 60) rfl ?_); refine goB 9 Try.func60 #[.int .i64 a1_0, .int .i64 0, .int .i64 (wrap64 (a0 - 1))] rfl ?_; (with_reducible refine (spec_l01In.calls a1_0 0 (wrap64 (a0 - 1)) true _ A3.out).mono ?_); rintro e w' ⟨rfl, ⟨nd, rfl⟩⟩; refine ⟨_, rfl, ?_⟩))
 go_ret
 exact ⟨xq41, belA⟩

end Go.Proofs.Ytbojabmpcfclhaa.PFnPlanTurned

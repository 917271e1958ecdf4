-- Written by a program of this session (the print of the kit with contracts of this session's own added)
import Derived.Test.YtogdhclomgafdaaZFJBx4
set_option maxHeartbeats 8000000
set_option maxRecDepth 100000
namespace Go.Proofs.Ytogdhclomgafdaa.PFnJobBytes
open Go.RowKit Go.Proofs.YtogdhclomgafdaaW.PrintWords Go.Proofs.YtogdhclomgafdaaW.PrintLast Go.Proofs.YtogdhclomgafdaaW.PrintMore Go.Proofs.YtogdhclomgafdaaW.PrintPack Go.Proofs.YtogdhclomgafdaaW.PrintPack
set_option linter.unusedVariables false
set_option linter.unusedSimpArgs false

def spec_PolyOk.f (k : Nat) (a0 : Int) (l1 : List Int) : Option (Bool) := if (l1.length : Int) > 400 then (some false) else ((spec_l03Elements.f k a0 l1).bind fun t278 => (if t278 = true then (if (l1.length : Int) = 0 then (some true) else (if 0 ≤ (wrap64 ((l1.length : Int) - 1)) then (if (wrap64 ((l1.length : Int) - 1)) < (l1.length : Int) then (some ((rd l1 (wrap64 ((l1.length : Int) - 1))) != 0)) else (none)) else (none))) else (some false)))
theorem spec_PolyOk.mono : ∀ a0 a1 k, LeO (spec_PolyOk.f k a0 a1) (spec_PolyOk.f (k + 1) a0 a1) := by
 intro a0 a1 k
 unfold spec_PolyOk.f
 exact (by repeat' (with_reducible first | exact spec_l03Elements.mono _ _ _ | exact LeO.refl _ | exact LeO.none _ | refine LeO.ite ?_ ?_ | refine LeO.bind ?_ (fun _ => ?_)))
theorem spec_PolyOk.calls (k : Nat) (a0 : Int) (A1 : Option Addr) (c1 : Nat) (l1 : List Int) (r : Bool) (w : World) (hr1 : Kd.C (Kd.int .i64) w A1 l1.length l1) (hc1 : l1.length ≤ c1) (h : spec_PolyOk.f k a0 l1 = some r) :
 Calls Try.prog 141 #[.int .i64 a0, .slice A1 l1.length c1] w fun e w' => e = .returned (.bool r) ∧ Drawn0 w w' := by
 have HR1 := ak hr1; have HC1 := ak hc1; clear hr1 hc1; have H : (if (l1.length : Int) > 400 then (some false) else ((spec_l03Elements.f k a0 l1).bind fun t278 => (if t278 = true then (if (l1.length : Int) = 0 then (some true) else (if 0 ≤ (wrap64 ((l1.length : Int) - 1)) then (if (wrap64 ((l1.length : Int) - 1)) < (l1.length : Int) then (some ((rd l1 (wrap64 ((l1.length : Int) - 1))) != 0)) else (none)) else (none))) else (some false)))) = some r := h; clear h
 by_cases c3 : (l1.length : Int) > 400
 · rw [if_pos c3] at H; have c3b0 : decide (400 < (l1.length : Int)) = true := decide_eq_true c3; have c3b1 : decide (400 < l1.length) = true := decide_eq_true (by omega); clear c3; obtain rfl := Option.some.inj H; go_enter Try.func141, Try.ntmps141
   go_wp2
   go_ret
   exact ⟨xq10, xq5⟩
 rw [if_neg c3] at H; have c3b0 : decide (400 < (l1.length : Int)) = false := decide_eq_false c3; have c3b1 : decide (400 < l1.length) = false := decide_eq_false (by omega); clear c3; replace H := Option.bind_eq_some_iff.mp H; obtain ⟨t278, A40, H⟩ := H; (try dsimp only at H); have A4 := ak A40; clear A40
 by_cases c5 : t278 = true; rotate_left
 · replace c5 := Bool.eq_false_iff.mpr c5; subst c5; have H1 : (some false) = some r := by rw [if_neg (show ¬ (false = true) by decide)] at H; exact H
   clear H; have H := H1; clear H1; obtain rfl := Option.some.inj H; go_enter Try.func141, Try.ntmps141
   go_wp2_with (first | (go_at_call 138; (with_reducible refine (spec_l03Elements.calls k a0 _ _ l1 false _ ?side1 ?side2 A4.out).mono ?_); (case side1 => exact cA HR1.out); (case side2 => exact HC1.out); rintro e w' ⟨rfl, ⟨nd, rfl⟩⟩))
   go_ret
   exact ⟨xq10, xq5⟩
 subst c5; have H1 : (if (l1.length : Int) = 0 then (some true) else (if 0 ≤ (wrap64 ((l1.length : Int) - 1)) then (if (wrap64 ((l1.length : Int) - 1)) < (l1.length : Int) then (some ((rd l1 (wrap64 ((l1.length : Int) - 1))) != 0)) else (none)) else (none))) = some r := by rw [if_pos rfl] at H; exact H
 clear H; have H := H1; clear H1
 by_cases c6 : (l1.length : Int) = 0
 · rw [if_pos c6] at H; have c6b0 : ((l1.length : Int) == 0) = true := beq_iff_eq.mpr c6; have c6b1 : ((l1.length : Int) != 0) = false := bne_eq_false_iff_eq.mpr c6; clear c6; obtain rfl := Option.some.inj H; go_enter Try.func141, Try.ntmps141
   go_wp2_with (first | (go_at_call 138; (with_reducible refine (spec_l03Elements.calls k a0 _ _ l1 true _ ?side1 ?side2 A4.out).mono ?_); (case side1 => exact cA HR1.out); (case side2 => exact HC1.out); rintro e w' ⟨rfl, ⟨nd, rfl⟩⟩))
   go_ret
   exact ⟨xq10, xq5⟩
 rw [if_neg c6] at H; have c6b0 : ((l1.length : Int) == 0) = false := beq_eq_false_iff_ne.mpr c6; have c6b1 : ((l1.length : Int) != 0) = true := bne_iff_ne.mpr c6; have c6b2 : ¬ (l1 = []) := fun h_ => c6 (by rw [h_]; rfl)
 obtain ⟨ji7, hji7⟩ : ∃ j_ : Int, (wrap64 ((l1.length : Int) - 1)) = j_ := ⟨_, rfl⟩; replace H : (if 0 ≤ (ji7) then (if (ji7) < (l1.length : Int) then (some ((rd l1 (ji7)) != 0)) else (none)) else (none)) = some r := by first | (rw [hji7] at H; exact H) | (simp only [hji7] at H ⊢; exact H)
 (try rw [hji7] at A4)
 have hji7w : (IntKind.i64.wrap ((l1.length : Int) - 1)) = ji7 := (i64_w _).trans hji7
 by_cases c8 : 0 ≤ (ji7); rotate_left
 · rw [if_neg c8] at H; exact absurd H (by simp)
 rw [if_pos c8] at H; have c8b0 := decide_eq_true c8; clear c8
 by_cases c9 : (ji7) < (l1.length : Int); rotate_left
 · rw [if_neg c9] at H; exact absurd H (by simp)
 rw [if_pos c9] at H; have c9b0 := decide_eq_true c9; clear c9; obtain rfl := Option.some.inj H; go_enter Try.func141, Try.ntmps141
 go_wp2_with (first | (go_at_call 138; (with_reducible refine (spec_l03Elements.calls k a0 _ _ l1 true _ ?side1 ?side2 A4.out).mono ?_); (case side1 => exact cA HR1.out); (case side2 => exact HC1.out); rintro e w' ⟨rfl, ⟨nd, rfl⟩⟩; have p279 : 0 ≤ ((ji7) : Int) := odA; have q279 : (ji7) < (l1.length : Int) := odA; obtain ⟨ad279, e279, hx279_0⟩ := Kd.at_int HR1.out (ji7) p279 q279; cases e279; replace p279 := eq_true p279; replace q279 := eq_true q279))
 go_ret
 exact ⟨by first | rfl | (simp; done) | (simp only [← hji7] <;> (first | rfl | simp)) | (simp [*]; done), xq5⟩

def spec_Reduce.f (a0 : Int) (a1 : Int) : Option (Int) := (spec_Modulus.f a0).bind fun t280 => (if t280 = 0 then (some (-1)) else (if (Int.tmod a1 t280) < 0 then (some (wrap64 ((Int.tmod a1 t280) + t280))) else (some (Int.tmod a1 t280))))
theorem spec_Reduce.calls (a0 : Int) (a1 : Int) (r : Int) (w : World) (h : spec_Reduce.f a0 a1 = some r) :
 Calls Try.prog 145 #[.int .i64 a0, .int .i64 a1] w fun e w' => e = .returned (.int .i64 r) ∧ Drawn0 w w' := by
 have H : ((spec_Modulus.f a0).bind fun t280 => (if t280 = 0 then (some (-1)) else (if (Int.tmod a1 t280) < 0 then (some (wrap64 ((Int.tmod a1 t280) + t280))) else (some (Int.tmod a1 t280))))) = some r := h; clear h; replace H := Option.bind_eq_some_iff.mp H; obtain ⟨t280, A30, H⟩ := H; (try dsimp only at H); have A3 := ak A30; clear A30
 by_cases c4 : t280 = 0
 · rw [if_pos c4] at H; have c4b0 : (t280 == 0) = true := beq_iff_eq.mpr c4; have c4b1 : (t280 != 0) = false := bne_eq_false_iff_eq.mpr c4; clear c4; obtain rfl := Option.some.inj H; go_enter Try.func145, Try.ntmps145
   go_wp2_with (first | ((with_reducible refine gate_callee (f := 82) rfl ?_); refine goB 8 Try.func82 #[.int .i64 a0] rfl ?_; (with_reducible refine (spec_Modulus.calls a0 t280 _ A3.out).mono ?_); rintro e w' ⟨rfl, ⟨nd, rfl⟩⟩; refine ⟨_, rfl, ?_⟩))
   go_ret
   exact ⟨xq10, xq5⟩
 rw [if_neg c4] at H; have c4b0 : (t280 == 0) = false := beq_eq_false_iff_ne.mpr c4; have c4b1 : (t280 != 0) = true := bne_iff_ne.mpr c4
 by_cases c5 : (Int.tmod a1 t280) < 0
 · rw [if_pos c5] at H; have c5b0 := decide_eq_true c5; clear c5; obtain rfl := Option.some.inj H; go_enter Try.func145, Try.ntmps145
   go_wp2_with (first | ((with_reducible refine gate_callee (f := 82) rfl ?_); refine goB 8 Try.func82 #[.int .i64 a0] rfl ?_; (with_reducible refine (spec_Modulus.calls a0 t280 _ A3.out).mono ?_); rintro e w' ⟨rfl, ⟨nd, rfl⟩⟩; refine ⟨_, rfl, ?_⟩))
   go_ret
   exact ⟨xq10, xq5⟩
 rw [if_neg c5] at H; have c5b0 := decide_eq_false c5; clear c5; obtain rfl := Option.some.inj H; go_enter Try.func145, Try.ntmps145
 go_wp2_with (first | ((with_reducible refine gate_callee (f := 82) rfl ?_); refine goB 8 Try.func82 #[.int .i64 a0] rfl ?_; (with_reducible refine (spec_Modulus.calls a0 t280 _ A3.out).mono ?_); rintro e w' ⟨rfl, ⟨nd, rfl⟩⟩; refine ⟨_, rfl, ?_⟩))
 go_ret
 exact ⟨xq10, xq5⟩

def spec_Add.f (a0 : Int) (a1 : Int) (a2 : Int) : Option (Int) := (spec_Modulus.f a0).bind fun t281 => (if t281 = 0 then (some (-1)) else ((spec_Reduce.f a0 a1).bind fun t282 => ((spec_Reduce.f a0 a2).bind fun t283 => ((spec_Reduce.f a0 (wrap64 (t282 + t283))).bind fun t284 => (some t284)))))
theorem spec_Add.calls (a0 : Int) (a1 : Int) (a2 : Int) (r : Int) (w : World) (h : spec_Add.f a0 a1 a2 = some r) :
 Calls Try.prog 142 #[.int .i64 a0, .int .i64 a1, .int .i64 a2] w fun e w' => e = .returned (.int .i64 r) ∧ Drawn0 w w' := by
 have H : ((spec_Modulus.f a0).bind fun t281 => (if t281 = 0 then (some (-1)) else ((spec_Reduce.f a0 a1).bind fun t282 => ((spec_Reduce.f a0 a2).bind fun t283 => ((spec_Reduce.f a0 (wrap64 (t282 + t283))).bind fun t284 => (some t284)))))) = some r := h; clear h; replace H := Option.bind_eq_some_iff.mp H; obtain ⟨t281, A40, H⟩ := H; (try dsimp only at H); have A4 := ak A40; clear A40
 by_cases c5 : t281 = 0
 · rw [if_pos c5] at H; have c5b0 : (t281 == 0) = true := beq_iff_eq.mpr c5; have c5b1 : (t281 != 0) = false := bne_eq_false_iff_eq.mpr c5; clear c5; obtain rfl := Option.some.inj H; go_enter Try.func142, Try.ntmps142
   go_wp2_with (first | ((with_reducible refine gate_callee (f := 82) rfl ?_); refine goB 8 Try.func82 #[.int .i64 a0] rfl ?_; (with_reducible refine (spec_Modulus.calls a0 t281 _ A4.out).mono ?_); rintro e w' ⟨rfl, ⟨nd, rfl⟩⟩; refine ⟨_, rfl, ?_⟩))
   go_ret
   exact ⟨xq10, xq5⟩
 rw [if_neg c5] at H; have c5b0 : (t281 == 0) = false := beq_eq_false_iff_ne.mpr c5; have c5b1 : (t281 != 0) = true := bne_iff_ne.mpr c5; replace H := Option.bind_eq_some_iff.mp H; obtain ⟨t282, A60, H⟩ := H; (try dsimp only at H); have A6 := ak A60; clear A60; replace H := Option.bind_eq_some_iff.mp H; obtain ⟨t283, A70, H⟩ := H; (try dsimp only at H); have A7 := ak A70; clear A70; replace H := Option.bind_eq_some_iff.mp H; obtain ⟨t284, A80, H⟩ := H; (try dsimp only at H); have A8 := ak A80; clear A80; obtain rfl := Option.some.inj H; go_enter Try.func142, Try.ntmps142
 go_wp2_with (first | ((with_reducible refine gate_callee (f := 82) rfl ?_); refine goB 8 Try.func82 #[.int .i64 a0] rfl ?_; (with_reducible refine (spec_Modulus.calls a0 t281 _ A4.out).mono ?_); rintro e w' ⟨rfl, ⟨nd, rfl⟩⟩; refine ⟨_, rfl, ?_⟩) | ((with_reducible refine gate_callee (f := 145) rfl ?_); refine goB 13 Try.func145 #[.int .i64 a0, .int .i64 a1] rfl ?_; (with_reducible refine (spec_Reduce.calls a0 a1 t282 _ A6.out).mono ?_); rintro e w' ⟨rfl, ⟨nd, rfl⟩⟩; refine ⟨_, rfl, ?_⟩) | ((with_reducible refine gate_callee (f := 145) rfl ?_); refine goB 16 Try.func145 #[.int .i64 a0, .int .i64 a2] rfl ?_; (with_reducible refine (spec_Reduce.calls a0 a2 t283 _ A7.out).mono ?_); rintro e w' ⟨rfl, ⟨nd, rfl⟩⟩; refine ⟨_, rfl, ?_⟩) | ((with_reducible refine gate_callee (f := 145) rfl ?_); refine goB 18 Try.func145 #[.int .i64 a0, .int .i64 (wrap64 (t282 + t283))] rfl ?_; (with_reducible refine (spec_Reduce.calls a0 (wrap64 (t282 + t283)) t284 _ A8.out).mono ?_); rintro e w' ⟨rfl, ⟨nd, rfl⟩⟩; refine ⟨_, rfl, ?_⟩))
 go_ret
 exact ⟨xq10, xq5⟩

def spec_Mul.f (a0 : Int) (a1 : Int) (a2 : Int) : Option (Int) := (spec_Modulus.f a0).bind fun t285 => (if t285 = 0 then (some (-1)) else ((spec_Reduce.f a0 a1).bind fun t286 => ((spec_Reduce.f a0 a2).bind fun t287 => ((spec_Reduce.f a0 (wrap64 (t286 * t287))).bind fun t288 => (some t288)))))
theorem spec_Mul.calls (a0 : Int) (a1 : Int) (a2 : Int) (r : Int) (w : World) (h : spec_Mul.f a0 a1 a2 = some r) :
 Calls Try.prog 143 #[.int .i64 a0, .int .i64 a1, .int .i64 a2] w fun e w' => e = .returned (.int .i64 r) ∧ Drawn0 w w' := by
 have H : ((spec_Modulus.f a0).bind fun t285 => (if t285 = 0 then (some (-1)) else ((spec_Reduce.f a0 a1).bind fun t286 => ((spec_Reduce.f a0 a2).bind fun t287 => ((spec_Reduce.f a0 (wrap64 (t286 * t287))).bind fun t288 => (some t288)))))) = some r := h; clear h; replace H := Option.bind_eq_some_iff.mp H; obtain ⟨t285, A40, H⟩ := H; (try dsimp only at H); have A4 := ak A40; clear A40
 by_cases c5 : t285 = 0
 · rw [if_pos c5] at H; have c5b0 : (t285 == 0) = true := beq_iff_eq.mpr c5; have c5b1 : (t285 != 0) = false := bne_eq_false_iff_eq.mpr c5; clear c5; obtain rfl := Option.some.inj H; go_enter Try.func143, Try.ntmps143
   go_wp2_with (first | ((with_reducible refine gate_callee (f := 82) rfl ?_); refine goB 8 Try.func82 #[.int .i64 a0] rfl ?_; (with_reducible refine (spec_Modulus.calls a0 t285 _ A4.out).mono ?_); rintro e w' ⟨rfl, ⟨nd, rfl⟩⟩; refine ⟨_, rfl, ?_⟩))
   go_ret
   exact ⟨xq10, xq5⟩
 rw [if_neg c5] at H; have c5b0 : (t285 == 0) = false := beq_eq_false_iff_ne.mpr c5; have c5b1 : (t285 != 0) = true := bne_iff_ne.mpr c5; replace H := Option.bind_eq_some_iff.mp H; obtain ⟨t286, A60, H⟩ := H; (try dsimp only at H); have A6 := ak A60; clear A60; replace H := Option.bind_eq_some_iff.mp H; obtain ⟨t287, A70, H⟩ := H; (try dsimp only at H); have A7 := ak A70; clear A70; replace H := Option.bind_eq_some_iff.mp H; obtain ⟨t288, A80, H⟩ := H; (try dsimp only at H); have A8 := ak A80; clear A80; obtain rfl := Option.some.inj H; go_enter Try.func143, Try.ntmps143
 go_wp2_with (first | ((with_reducible refine gate_callee (f := 82) rfl ?_); refine goB 8 Try.func82 #[.int .i64 a0] rfl ?_; (with_reducible refine (spec_Modulus.calls a0 t285 _ A4.out).mono ?_); rintro e w' ⟨rfl, ⟨nd, rfl⟩⟩; refine ⟨_, rfl, ?_⟩) | ((with_reducible refine gate_callee (f := 145) rfl ?_); refine goB 13 Try.func145 #[.int .i64 a0, .int .i64 a1] rfl ?_; (with_reducible refine (spec_Reduce.calls a0 a1 t286 _ A6.out).mono ?_); rintro e w' ⟨rfl, ⟨nd, rfl⟩⟩; refine ⟨_, rfl, ?_⟩) | ((with_reducible refine gate_callee (f := 145) rfl ?_); refine goB 16 Try.func145 #[.int .i64 a0, .int .i64 a2] rfl ?_; (with_reducible refine (spec_Reduce.calls a0 a2 t287 _ A7.out).mono ?_); rintro e w' ⟨rfl, ⟨nd, rfl⟩⟩; refine ⟨_, rfl, ?_⟩) | ((with_reducible refine gate_callee (f := 145) rfl ?_); refine goB 18 Try.func145 #[.int .i64 a0, .int .i64 (wrap64 (t286 * t287))] rfl ?_; (with_reducible refine (spec_Reduce.calls a0 (wrap64 (t286 * t287)) t288 _ A8.out).mono ?_); rintro e w' ⟨rfl, ⟨nd, rfl⟩⟩; refine ⟨_, rfl, ?_⟩))
 go_ret
 exact ⟨xq10, xq5⟩

mutual
def spec_Power.j0 : Nat → Int → Int → Int → Option (Int)
 | 0, _, _, _ => none
 | k + 1, x7, x8, x9 => spec_Power.l0 k x7 x8 x9 1
def spec_Power.l0 : Nat → Int → Int → Int → Int → Option (Int)
 | 0, _, _, _, _ => none
 | k + 1, x7, x8, x9, x10 => if x9 > 0 then (if (Int.tmod x9 2) = 1 then (if x7 = 0 then (none) else (spec_Power.l0 k x7 (Int.tmod (wrap64 (x8 * x8)) x7) (wrap64 (Int.tdiv x9 2)) (Int.tmod (wrap64 (x10 * x8)) x7))) else (if x7 = 0 then (none) else (spec_Power.l0 k x7 (Int.tmod (wrap64 (x8 * x8)) x7) (wrap64 (Int.tdiv x9 2)) x10))) else (some x10)
end
def spec_Power.f (k : Nat) (a0 : Int) (a1 : Int) (a2 : Int) : Option (Int) := (spec_Modulus.f a0).bind fun t289 => (if t289 = 0 then (some (-1)) else ((spec_Reduce.f a0 a1).bind fun t290 => (if t290 = 0 then (if a2 = 0 then (some 1) else (if a2 < 0 then (some (-1)) else (some 0))) else (if (wrap64 (t289 - 1)) = 0 then (none) else (if (Int.tmod a2 (wrap64 (t289 - 1))) < 0 then (spec_Power.j0 k t289 t290 (wrap64 ((wrap64 ((Int.tmod a2 (wrap64 (t289 - 1))) + t289)) - 1))) else (spec_Power.j0 k t289 t290 (Int.tmod a2 (wrap64 (t289 - 1)))))))))
theorem spec_Power.mono_l : ∀ k, (∀ y0 y1 y2, LeO (spec_Power.j0 k y0 y1 y2) (spec_Power.j0 (k + 1) y0 y1 y2)) ∧ (∀ y0 y1 y2 y3, LeO (spec_Power.l0 k y0 y1 y2 y3) (spec_Power.l0 (k + 1) y0 y1 y2 y3))
 | 0 => ⟨fun _ _ _ r h => by simp [spec_Power.j0] at h, fun _ _ _ _ r h => by simp [spec_Power.l0] at h⟩
 | k + 1 => by
  obtain ⟨ih0, ih1⟩ := spec_Power.mono_l k; refine ⟨?_, ?_⟩
  · intro y0 y1 y2; unfold spec_Power.j0; exact xq70
  · intro y0 y1 y2 y3; unfold spec_Power.l0; exact xq70
theorem spec_Power.mono : ∀ a0 a1 a2 k, LeO (spec_Power.f k a0 a1 a2) (spec_Power.f (k + 1) a0 a1 a2) := by
 intro a0 a1 a2 k; obtain ⟨ih0, ih1⟩ := spec_Power.mono_l k
 unfold spec_Power.f
 exact xq70
theorem spec_Power.calls (k : Nat) (a0 : Int) (a1 : Int) (a2 : Int) (r : Int) (w : World) (h : spec_Power.f k a0 a1 a2 = some r) :
 Calls Try.prog 144 #[.int .i64 a0, .int .i64 a1, .int .i64 a2] w fun e w' => e = .returned (.int .i64 r) ∧ Drawn0 w w' := by
 have H : ((spec_Modulus.f a0).bind fun t289 => (if t289 = 0 then (some (-1)) else ((spec_Reduce.f a0 a1).bind fun t290 => (if t290 = 0 then (if a2 = 0 then (some 1) else (if a2 < 0 then (some (-1)) else (some 0))) else (if (wrap64 (t289 - 1)) = 0 then (none) else (if (Int.tmod a2 (wrap64 (t289 - 1))) < 0 then (spec_Power.j0 k t289 t290 (wrap64 ((wrap64 ((Int.tmod a2 (wrap64 (t289 - 1))) + t289)) - 1))) else (spec_Power.j0 k t289 t290 (Int.tmod a2 (wrap64 (t289 - 1)))))))))) = some r := h; clear h; replace H := Option.bind_eq_some_iff.mp H; obtain ⟨t289, A40, H⟩ := H; (try dsimp only at H); have A4 := ak A40; clear A40
 by_cases c5 : t289 = 0
 · rw [if_pos c5] at H; have c5b0 : (t289 == 0) = true := beq_iff_eq.mpr c5; have c5b1 : (t289 != 0) = false := bne_eq_false_iff_eq.mpr c5; clear c5; obtain rfl := Option.some.inj H; go_enter Try.func144, Try.ntmps144
   go_wp2_with (first | ((with_reducible refine gate_callee (f := 82) rfl ?_); refine goB 12 Try.func82 #[.int .i64 a0] rfl ?_; (with_reducible refine (spec_Modulus.calls a0 t289 _ A4.out).mono ?_); rintro e w' ⟨rfl, ⟨nd, rfl⟩⟩; refine ⟨_, rfl, ?_⟩))
   go_ret
   exact ⟨xq10, xq5⟩
 rw [if_neg c5] at H; have c5b0 : (t289 == 0) = false := beq_eq_false_iff_ne.mpr c5; have c5b1 : (t289 != 0) = true := bne_iff_ne.mpr c5; replace H := Option.bind_eq_some_iff.mp H; obtain ⟨t290, A60, H⟩ := H; (try dsimp only at H); have A6 := ak A60; clear A60
 by_cases c7 : t290 = 0
 · rw [if_pos c7] at H; have c7b0 : (t290 == 0) = true := beq_iff_eq.mpr c7; have c7b1 : (t290 != 0) = false := bne_eq_false_iff_eq.mpr c7; clear c7
   by_cases c8 : a2 = 0
   · rw [if_pos c8] at H; have c8b0 : (a2 == 0) = true := beq_iff_eq.mpr c8; have c8b1 : (a2 != 0) = false := bne_eq_false_iff_eq.mpr c8; clear c8; obtain rfl := Option.some.inj H; go_enter Try.func144, Try.ntmps144
     go_wp2_with (first | ((with_reducible refine gate_callee (f := 82) rfl ?_); refine goB 12 Try.func82 #[.int .i64 a0] rfl ?_; (with_reducible refine (spec_Modulus.calls a0 t289 _ A4.out).mono ?_); rintro e w' ⟨rfl, ⟨nd, rfl⟩⟩; refine ⟨_, rfl, ?_⟩) | ((with_reducible refine gate_callee (f := 145) rfl ?_); refine goB 17 Try.func145 #[.int .i64 a0, .int .i64 a1] rfl ?_; (with_reducible refine (spec_Reduce.calls a0 a1 t290 _ A6.out).mono ?_); rintro e w' ⟨rfl, ⟨nd, rfl⟩⟩; refine ⟨_, rfl, ?_⟩))
     go_ret
     exact ⟨xq10, xq5⟩
   rw [if_neg c8] at H; have c8b0 : (a2 == 0) = false := beq_eq_false_iff_ne.mpr c8; have c8b1 : (a2 != 0) = true := bne_iff_ne.mpr c8
   by_cases c9 : a2 < 0
   · rw [if_pos c9] at H; have c9b0 := decide_eq_true c9; clear c9; obtain rfl := Option.some.inj H; go_enter Try.func144, Try.ntmps144
     go_wp2_with (first | ((with_reducible refine gate_callee (f := 82) rfl ?_); refine goB 12 Try.func82 #[.int .i64 a0] rfl ?_; (with_reducible refine (spec_Modulus.calls a0 t289 _ A4.out).mono ?_); rintro e w' ⟨rfl, ⟨nd, rfl⟩⟩; refine ⟨_, rfl, ?_⟩) | ((with_reducible refine gate_callee (f := 145) rfl ?_); refine goB 17 Try.func145 #[.int .i64 a0, .int .i64 a1] rfl ?_; (with_reducible refine (spec_Reduce.calls a0 a1 t290 _ A6.out).mono ?_); rintro e w' ⟨rfl, ⟨nd, rfl⟩⟩; refine ⟨_, rfl, ?_⟩))
     go_ret
     exact ⟨xq10, xq5⟩
   rw [if_neg c9] at H; have c9b0 := decide_eq_false c9; clear c9; obtain rfl := Option.some.inj H; go_enter Try.func144, Try.ntmps144
   go_wp2_with (first | ((with_reducible refine gate_callee (f := 82) rfl ?_); refine goB 12 Try.func82 #[.int .i64 a0] rfl ?_; (with_reducible refine (spec_Modulus.calls a0 t289 _ A4.out).mono ?_); rintro e w' ⟨rfl, ⟨nd, rfl⟩⟩; refine ⟨_, rfl, ?_⟩) | ((with_reducible refine gate_callee (f := 145) rfl ?_); refine goB 17 Try.func145 #[.int .i64 a0, .int .i64 a1] rfl ?_; (with_reducible refine (spec_Reduce.calls a0 a1 t290 _ A6.out).mono ?_); rintro e w' ⟨rfl, ⟨nd, rfl⟩⟩; refine ⟨_, rfl, ?_⟩))
   go_ret
   exact ⟨xq10, xq5⟩
 rw [if_neg c7] at H; have c7b0 : (t290 == 0) = false := beq_eq_false_iff_ne.mpr c7; have c7b1 : (t290 != 0) = true := bne_iff_ne.mpr c7
 by_cases c10 : (wrap64 (t289 - 1)) = 0
 · rw [if_pos c10] at H; exact absurd H (by simp)
 rw [if_neg c10] at H; have c10b0 : ((wrap64 (t289 - 1)) == 0) = false := beq_eq_false_iff_ne.mpr c10; have c10b1 : ((wrap64 (t289 - 1)) != 0) = true := bne_iff_ne.mpr c10; have HC11 := ak H; clear H; go_enter Try.func144, Try.ntmps144
 go_upto_if 29 with (first | ((with_reducible refine gate_callee (f := 82) rfl ?_); refine goB 12 Try.func82 #[.int .i64 a0] rfl ?_; (with_reducible refine (spec_Modulus.calls a0 t289 _ A4.out).mono ?_); rintro e w' ⟨rfl, ⟨nd, rfl⟩⟩; refine ⟨_, rfl, ?_⟩) | ((with_reducible refine gate_callee (f := 145) rfl ?_); refine goB 17 Try.func145 #[.int .i64 a0, .int .i64 a1] rfl ?_; (with_reducible refine (spec_Reduce.calls a0 a1 t290 _ A6.out).mono ?_); rintro e w' ⟨rfl, ⟨nd, rfl⟩⟩; refine ⟨_, rfl, ?_⟩))
 (try simp only [Act.put, sa, sb, sc])
 go_cut [9] (fun v9 wc => ∃ (kq : Nat) (x9_10 : Int), v9 = .int .i64 x9_10 ∧ Aside0 (spec_Power.j0 kq t289 t290 x9_10 = some r) ∧ Aside0 (kq ≤ k) ∧ Drawn0 w wc)
 case first =>
  have H := HC11.out; clear HC11
  by_cases c12 : (Int.tmod a2 (wrap64 (t289 - 1))) < 0; rotate_left
  · rw [if_neg c12] at H; have c12b0 := decide_eq_false c12; have c12b0w : decide ((Int.tmod a2 (IntKind.i64.wrap (t289 - 1))) < 0) = false := by simp only [i64_w]; exact c12b0
    clear c12; (first | rw [c12b0] | (simp only [i64_w, i32_w]; rw [c12b0]) | skip)
    have H' := ak H; clear H; go_wp2
    go_meet
    case rel => exact ⟨_, (Int.tmod a2 (wrap64 (t289 - 1))), eqA, H', ⟨xq12⟩, xq5⟩
  rw [if_pos c12] at H; have c12b0 := decide_eq_true c12; have c12b0w : decide ((Int.tmod a2 (IntKind.i64.wrap (t289 - 1))) < 0) = true := by simp only [i64_w]; exact c12b0
  clear c12; (first | rw [c12b0] | (simp only [i64_w, i32_w]; rw [c12b0]) | skip)
  have H' := ak H; clear H; go_wp2
  go_meet
  case rel => exact ⟨_, (wrap64 ((wrap64 ((Int.tmod a2 (wrap64 (t289 - 1))) + t289)) - 1)), eqA, H', ⟨xq12⟩, xq5⟩
 case rest =>
  clear HC11; obtain ⟨kq, x9_10, rfl, HA, HJ10, ⟨mc10, rfl⟩⟩ := hcut
  cases kq with
  | zero => exact absurd HA.out (by simp [spec_Power.j0])
  | succ kj10 =>
   have H := HA.out; clear HA; simp only [spec_Power.j0] at H; have H' := ak H; clear H; go_wp2
   go_loopg [8, 9, 10] kj10 (fun kq v8 v9 v10 w' => ∃ (x8_2 : Int) (x9_2 : Int) (x10_2 : Int), v8 = .int .i64 x8_2 ∧ v9 = .int .i64 x9_2 ∧ v10 = .int .i64 x10_2 ∧ Aside0 (spec_Power.l0 kq t289 x8_2 x9_2 x10_2 = some r) ∧ Aside0 (kq ≤ kj10) ∧ Drawn0 w w')
   case atStart => exact ⟨(t290), (x9_10), (1), eqA, eqA, eqA, H', ⟨Nat.le_refl _⟩, xq5⟩
   case round =>
    clear H'; obtain ⟨x8_2, x9_2, x10_2, rfl, rfl, rfl, HA, HK2, ⟨m2, rfl⟩⟩ := hrel
    cases gk with
    | zero => exact absurd HA.out (by simp [spec_Power.l0])
    | succ k2 =>
     have H := HA.out; clear HA; simp only [spec_Power.l0] at H
     by_cases c13 : x9_2 > 0; rotate_left
     · rw [if_neg c13] at H; have c13b0 : decide (0 < x9_2) = false := decide_eq_false c13; clear c13; obtain rfl := Option.some.inj H; go_wp2
       go_ret
       exact ⟨xq10, xq5⟩
     rw [if_pos c13] at H; have c13b0 : decide (0 < x9_2) = true := decide_eq_true c13; clear c13
     by_cases c14 : (Int.tmod x9_2 2) = 1; rotate_left
     · rw [if_neg c14] at H; have c14b0 : ((Int.tmod x9_2 2) == 1) = false := beq_eq_false_iff_ne.mpr c14; have c14b1 : ((Int.tmod x9_2 2) != 1) = true := bne_iff_ne.mpr c14
       by_cases c16 : t289 = 0
       · rw [if_pos c16] at H; exact absurd H (by simp)
       rw [if_neg c16] at H; have c16b0 : (t289 == 0) = false := beq_eq_false_iff_ne.mpr c16; have c16b1 : (t289 != 0) = true := bne_iff_ne.mpr c16; have H' := ak H; clear H; go_wp2
       go_roundg k2
       case measure => have := HJ10.out; have := HK2.out; omega
       case rel => exact ⟨(Int.tmod (wrap64 (x8_2 * x8_2)) t289), (wrap64 (Int.tdiv x9_2 2)), (x10_2), eqA, eqA, eqA, H', ⟨by have := HJ10.out; have := HK2.out; omega⟩, xq5⟩
     rw [if_pos c14] at H; have c14b0 : ((Int.tmod x9_2 2) == 1) = true := beq_iff_eq.mpr c14; have c14b1 : ((Int.tmod x9_2 2) != 1) = false := bne_eq_false_iff_eq.mpr c14; clear c14
     by_cases c15 : t289 = 0
     · rw [if_pos c15] at H; exact absurd H (by simp)
     rw [if_neg c15] at H; have c15b0 : (t289 == 0) = false := beq_eq_false_iff_ne.mpr c15; have c15b1 : (t289 != 0) = true := bne_iff_ne.mpr c15; have H' := ak H; clear H; go_wp2
     go_roundg k2
     case measure => have := HJ10.out; have := HK2.out; omega
     case rel => exact ⟨(Int.tmod (wrap64 (x8_2 * x8_2)) t289), (wrap64 (Int.tdiv x9_2 2)), (Int.tmod (wrap64 (x10_2 * x8_2)) t289), eqA, eqA, eqA, H', ⟨by have := HJ10.out; have := HK2.out; omega⟩, xq5⟩

def spec_EvalPoly.l0 : Nat → Int → List Int → Int → Int → Int → Option (Int)
 | 0, _, _, _, _, _ => none
 | k + 1, x0, x1, x2, x7, x8 => if x8 < (x1.length : Int) then (if 0 ≤ x8 then ((spec_Power.f k x0 x2 x8).bind fun t293 => ((spec_Mul.f x0 (rd x1 x8) t293).bind fun t294 => ((spec_Add.f x0 x7 t294).bind fun t295 => (spec_EvalPoly.l0 k x0 x1 x2 t295 (wrap64 (x8 + 1)))))) else (none)) else (some x7)
def spec_EvalPoly.f (k : Nat) (a0 : Int) (l1 : List Int) (a2 : Int) : Option (Int) := (spec_PolyOk.f k a0 l1).bind fun t291 => (if t291 = true then (spec_EvalPoly.l0 k a0 l1 a2 0 0) else (some (-1)))
theorem spec_EvalPoly.mono_l : ∀ k, (∀ y0 y1 y2 y3 y4, LeO (spec_EvalPoly.l0 k y0 y1 y2 y3 y4) (spec_EvalPoly.l0 (k + 1) y0 y1 y2 y3 y4))
 | 0 => fun _ _ _ _ _ r h => by simp [spec_EvalPoly.l0] at h
 | k + 1 => by
  have ih0 := spec_EvalPoly.mono_l k
  · intro y0 y1 y2 y3 y4; unfold spec_EvalPoly.l0; exact xq98
theorem spec_EvalPoly.mono : ∀ a0 a1 a2 k, LeO (spec_EvalPoly.f k a0 a1 a2) (spec_EvalPoly.f (k + 1) a0 a1 a2) := by
 intro a0 a1 a2 k; have ih0 := spec_EvalPoly.mono_l k
 unfold spec_EvalPoly.f
 exact xq98
theorem spec_EvalPoly.calls (k : Nat) (a0 : Int) (A1 : Option Addr) (c1 : Nat) (l1 : List Int) (a2 : Int) (r : Int) (w : World) (hr1 : Kd.C (Kd.int .i64) w A1 l1.length l1) (hc1 : l1.length ≤ c1) (h : spec_EvalPoly.f k a0 l1 a2 = some r) :
 Calls Try.prog 139 #[.int .i64 a0, .slice A1 l1.length c1, .int .i64 a2] w fun e w' => e = .returned (.int .i64 r) ∧ Drawn0 w w' := by
 have HR1 := ak hr1; have HC1 := ak hc1; clear hr1 hc1; have H : ((spec_PolyOk.f k a0 l1).bind fun t291 => (if t291 = true then (spec_EvalPoly.l0 k a0 l1 a2 0 0) else (some (-1)))) = some r := h; clear h; replace H := Option.bind_eq_some_iff.mp H; obtain ⟨t291, A40, H⟩ := H; (try dsimp only at H); have A4 := ak A40; clear A40
 by_cases c5 : t291 = true; rotate_left
 · replace c5 := Bool.eq_false_iff.mpr c5; subst c5; have H1 : (some (-1)) = some r := by rw [if_neg (show ¬ (false = true) by decide)] at H; exact H
   clear H; have H := H1; clear H1; obtain rfl := Option.some.inj H; go_enter Try.func139, Try.ntmps139
   go_wp2_with (first | (go_at_call 141; (with_reducible refine (spec_PolyOk.calls k a0 _ _ l1 false _ ?side1 ?side2 A4.out).mono ?_); (case side1 => exact cA HR1.out); (case side2 => exact HC1.out); rintro e w' ⟨rfl, ⟨nd, rfl⟩⟩; (try first | exact ⟨rfl, _, World.drewN_drewN _ _ _⟩ | exact ⟨rfl, _, Eq.trans (World.drewN_drewN _ _ _) (congrArg (World.drewN _) (Nat.add_assoc _ _ _))⟩)))
   repeat (go_quiet (first | (go_at_call 141; (with_reducible refine (spec_PolyOk.calls k a0 _ _ l1 false _ ?side1 ?side2 A4.out).mono ?_); (case side1 => exact cA HR1.out); (case side2 => exact HC1.out); rintro e w' ⟨rfl, ⟨nd, rfl⟩⟩; (try first | exact ⟨rfl, _, World.drewN_drewN _ _ _⟩ | exact ⟨rfl, _, Eq.trans (World.drewN_drewN _ _ _) (congrArg (World.drewN _) (Nat.add_assoc _ _ _))⟩))); try go_wp2_with (first | (go_at_call 141; (with_reducible refine (spec_PolyOk.calls k a0 _ _ l1 false _ ?side1 ?side2 A4.out).mono ?_); (case side1 => exact cA HR1.out); (case side2 => exact HC1.out); rintro e w' ⟨rfl, ⟨nd, rfl⟩⟩; (try first | exact ⟨rfl, _, World.drewN_drewN _ _ _⟩ | exact ⟨rfl, _, Eq.trans (World.drewN_drewN _ _ _) (congrArg (World.drewN _) (Nat.add_assoc _ _ _))⟩))))
   go_ret
   exact ⟨xq10, xq5⟩
 subst c5; have H1 : (spec_EvalPoly.l0 k a0 l1 a2 0 0) = some r := by rw [if_pos rfl] at H; exact H
 clear H; have H := H1; clear H1; have H' := ak H; clear H; go_enter Try.func139, Try.ntmps139
 go_wp2_with (first | (go_at_call 141; (with_reducible refine (spec_PolyOk.calls k a0 _ _ l1 true _ ?side1 ?side2 A4.out).mono ?_); (case side1 => exact cA HR1.out); (case side2 => exact HC1.out); rintro e w' ⟨rfl, ⟨nd, rfl⟩⟩; (try first | exact ⟨rfl, _, World.drewN_drewN _ _ _⟩ | exact ⟨rfl, _, Eq.trans (World.drewN_drewN _ _ _) (congrArg (World.drewN _) (Nat.add_assoc _ _ _))⟩)))
 repeat (go_quiet (first | (go_at_call 141; (with_reducible refine (spec_PolyOk.calls k a0 _ _ l1 true _ ?side1 ?side2 A4.out).mono ?_); (case side1 => exact cA HR1.out); (case side2 => exact HC1.out); rintro e w' ⟨rfl, ⟨nd, rfl⟩⟩; (try first | exact ⟨rfl, _, World.drewN_drewN _ _ _⟩ | exact ⟨rfl, _, Eq.trans (World.drewN_drewN _ _ _) (congrArg (World.drewN _) (Nat.add_assoc _ _ _))⟩))); try go_wp2_with (first | (go_at_call 141; (with_reducible refine (spec_PolyOk.calls k a0 _ _ l1 true _ ?side1 ?side2 A4.out).mono ?_); (case side1 => exact cA HR1.out); (case side2 => exact HC1.out); rintro e w' ⟨rfl, ⟨nd, rfl⟩⟩; (try first | exact ⟨rfl, _, World.drewN_drewN _ _ _⟩ | exact ⟨rfl, _, Eq.trans (World.drewN_drewN _ _ _) (congrArg (World.drewN _) (Nat.add_assoc _ _ _))⟩))))
 go_loopg [7, 8] k (fun kq v7 v8 w' => ∃ (x7_1 : Int) (x8_1 : Int), v7 = .int .i64 x7_1 ∧ v8 = .int .i64 x8_1 ∧ Aside0 (spec_EvalPoly.l0 kq a0 l1 a2 x7_1 x8_1 = some r) ∧ Aside0 (kq ≤ k) ∧ Drawn0 w w')
 case atStart => exact ⟨(0), (0), eqA, eqA, H', ⟨Nat.le_refl _⟩, xq5⟩
 case round =>
  clear H'; obtain ⟨x7_1, x8_1, rfl, rfl, HA, HK1, ⟨m1, rfl⟩⟩ := hrel
  cases gk with
  | zero => exact absurd HA.out (by simp [spec_EvalPoly.l0])
  | succ k1 =>
   have H := HA.out; clear HA; simp only [spec_EvalPoly.l0] at H
   by_cases c6 : x8_1 < (l1.length : Int); rotate_left
   · rw [if_neg c6] at H; have c6b0 := decide_eq_false c6; clear c6; obtain rfl := Option.some.inj H; go_wp2
     repeat (go_quiet (fail); try go_wp2)
     go_ret
     exact ⟨xq10, xq5⟩
   rw [if_pos c6] at H; have c6b0 := decide_eq_true c6; clear c6
   by_cases c7 : 0 ≤ x8_1; rotate_left
   · rw [if_neg c7] at H; exact absurd H (by simp)
   rw [if_pos c7] at H; have c7b0 := decide_eq_true c7; clear c7; replace H := Option.bind_eq_some_iff.mp H; obtain ⟨t293, A80, H⟩ := H; (try dsimp only at H); have A8 := ak A80; clear A80; replace H := Option.bind_eq_some_iff.mp H; obtain ⟨t294, A90, H⟩ := H; (try dsimp only at H); have A9 := ak A90; clear A90; replace H := Option.bind_eq_some_iff.mp H; obtain ⟨t295, A100, H⟩ := H; (try dsimp only at H); have A10 := ak A100; clear A100; have H' := ak H; clear H; have p292 : 0 ≤ (x8_1 : Int) := odA; have q292 : x8_1 < (l1.length : Int) := odA; obtain ⟨ad292, e292, hx292_0⟩ := Kd.at_int HR1.out x8_1 p292 q292
   cases e292
   replace p292 := eq_true p292; replace q292 := eq_true q292; go_wp2_with (first | (go_at_call 144; (with_reducible refine (spec_Power.calls k1 a0 a2 x8_1 t293 _ A8.out).mono ?_); rintro e w' ⟨rfl, ⟨nd, rfl⟩⟩; (try first | exact ⟨rfl, _, World.drewN_drewN _ _ _⟩ | exact ⟨rfl, _, Eq.trans (World.drewN_drewN _ _ _) (congrArg (World.drewN _) (Nat.add_assoc _ _ _))⟩)) | (go_at_call 143; (with_reducible refine (spec_Mul.calls a0 (rd l1 x8_1) t293 t294 _ A9.out).mono ?_); rintro e w' ⟨rfl, ⟨nd, rfl⟩⟩; (try first | exact ⟨rfl, _, World.drewN_drewN _ _ _⟩ | exact ⟨rfl, _, Eq.trans (World.drewN_drewN _ _ _) (congrArg (World.drewN _) (Nat.add_assoc _ _ _))⟩)) | (go_at_call 142; (with_reducible refine (spec_Add.calls a0 x7_1 t294 t295 _ A10.out).mono ?_); rintro e w' ⟨rfl, ⟨nd, rfl⟩⟩; (try first | exact ⟨rfl, _, World.drewN_drewN _ _ _⟩ | exact ⟨rfl, _, Eq.trans (World.drewN_drewN _ _ _) (congrArg (World.drewN _) (Nat.add_assoc _ _ _))⟩)))
   repeat (go_quiet (first | (go_at_call 144; (with_reducible refine (spec_Power.calls k1 a0 a2 x8_1 t293 _ A8.out).mono ?_); rintro e w' ⟨rfl, ⟨nd, rfl⟩⟩; (try first | exact ⟨rfl, _, World.drewN_drewN _ _ _⟩ | exact ⟨rfl, _, Eq.trans (World.drewN_drewN _ _ _) (congrArg (World.drewN _) (Nat.add_assoc _ _ _))⟩)) | (go_at_call 143; (with_reducible refine (spec_Mul.calls a0 (rd l1 x8_1) t293 t294 _ A9.out).mono ?_); rintro e w' ⟨rfl, ⟨nd, rfl⟩⟩; (try first | exact ⟨rfl, _, World.drewN_drewN _ _ _⟩ | exact ⟨rfl, _, Eq.trans (World.drewN_drewN _ _ _) (congrArg (World.drewN _) (Nat.add_assoc _ _ _))⟩)) | (go_at_call 142; (with_reducible refine (spec_Add.calls a0 x7_1 t294 t295 _ A10.out).mono ?_); rintro e w' ⟨rfl, ⟨nd, rfl⟩⟩; (try first | exact ⟨rfl, _, World.drewN_drewN _ _ _⟩ | exact ⟨rfl, _, Eq.trans (World.drewN_drewN _ _ _) (congrArg (World.drewN _) (Nat.add_assoc _ _ _))⟩))); try go_wp2_with (first | (go_at_call 144; (with_reducible refine (spec_Power.calls k1 a0 a2 x8_1 t293 _ A8.out).mono ?_); rintro e w' ⟨rfl, ⟨nd, rfl⟩⟩; (try first | exact ⟨rfl, _, World.drewN_drewN _ _ _⟩ | exact ⟨rfl, _, Eq.trans (World.drewN_drewN _ _ _) (congrArg (World.drewN _) (Nat.add_assoc _ _ _))⟩)) | (go_at_call 143; (with_reducible refine (spec_Mul.calls a0 (rd l1 x8_1) t293 t294 _ A9.out).mono ?_); rintro e w' ⟨rfl, ⟨nd, rfl⟩⟩; (try first | exact ⟨rfl, _, World.drewN_drewN _ _ _⟩ | exact ⟨rfl, _, Eq.trans (World.drewN_drewN _ _ _) (congrArg (World.drewN _) (Nat.add_assoc _ _ _))⟩)) | (go_at_call 142; (with_reducible refine (spec_Add.calls a0 x7_1 t294 t295 _ A10.out).mono ?_); rintro e w' ⟨rfl, ⟨nd, rfl⟩⟩; (try first | exact ⟨rfl, _, World.drewN_drewN _ _ _⟩ | exact ⟨rfl, _, Eq.trans (World.drewN_drewN _ _ _) (congrArg (World.drewN _) (Nat.add_assoc _ _ _))⟩))))
   go_roundg k1
   case measure => have := HK1.out; omega
   case rel => exact ⟨(t295), (wrap64 (x8_1 + 1)), eqA, eqA, H', ⟨xq19⟩, xq5⟩

end Go.Proofs.Ytogdhclomgafdaa.PFnJobBytes

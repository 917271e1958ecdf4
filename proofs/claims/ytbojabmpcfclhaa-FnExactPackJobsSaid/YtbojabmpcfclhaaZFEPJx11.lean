-- Written by a program of this session (the print of the kit with contracts of this session's own added)
import Derived.Test.YtbojabmpcfclhaaZFEPJx10
set_option maxHeartbeats 8000000
set_option maxRecDepth 100000
namespace Go.Proofs.Ytbojabmpcfclhaa.PFnExactPackJobs
open Go.RowKit Go.Proofs.YtbojabmpcfclhaaW.PrintWords Go.Proofs.YtbojabmpcfclhaaW.PrintLast Go.Proofs.YtbojabmpcfclhaaW.PrintMore Go.Proofs.YtbojabmpcfclhaaW.PrintPack Go.Proofs.YtbojabmpcfclhaaW.PrintPack
set_option linter.unusedVariables false
set_option linter.unusedSimpArgs false

def laws_eqJob.f (k : Nat) (a0_0 : Int) (a0_1 : Int) (l0_2 : List Int) (l0_3 : List Int) (a0_4 : Int) (a1_0 : Int) (a1_1 : Int) (l1_2 : List Int) (l1_3 : List Int) (a1_4 : Int) : Option (Bool) := if a0_0 = a1_0 then (if a0_1 = a1_1 then ((laws_eqIntS.f k l0_2 l1_2).bind fun t368 => (if t368 = true then ((laws_eqIntS.f k l0_3 l1_3).bind fun t369 => (if t369 = true then (if a0_4 = a1_4 then (some true) else (some false)) else (some false))) else (some false))) else (some false)) else (some false)
theorem laws_eqJob.mono : ∀ a0 a1 a2 a3 a4 a5 a6 a7 a8 a9 k, LeO (laws_eqJob.f k a0 a1 a2 a3 a4 a5 a6 a7 a8 a9) (laws_eqJob.f (k + 1) a0 a1 a2 a3 a4 a5 a6 a7 a8 a9) := by
 intro a0 a1 a2 a3 a4 a5 a6 a7 a8 a9 k
 unfold laws_eqJob.f
 exact (by repeat' (with_reducible first | exact laws_eqIntS.mono _ _ _ | exact LeO.refl _ | exact LeO.none _ | refine LeO.ite ?_ ?_ | refine LeO.bind ?_ (fun _ => ?_)))
theorem laws_eqJob.calls (k : Nat) (a0_0 : Int) (a0_1 : Int) (A0_2 : Option Addr) (c0_2 : Nat) (l0_2 : List Int) (A0_3 : Option Addr) (c0_3 : Nat) (l0_3 : List Int) (a0_4 : Int) (a1_0 : Int) (a1_1 : Int) (A1_2 : Option Addr) (c1_2 : Nat) (l1_2 : List Int) (A1_3 : Option Addr) (c1_3 : Nat) (l1_3 : List Int) (a1_4 : Int) (r : Bool) (w : World) (hr0_2 : Kd.C (Kd.int .i64) w A0_2 l0_2.length l0_2) (hc0_2 : l0_2.length ≤ c0_2) (hr0_3 : Kd.C (Kd.int .i64) w A0_3 l0_3.length l0_3) (hc0_3 : l0_3.length ≤ c0_3) (hr1_2 : Kd.C (Kd.int .i64) w A1_2 l1_2.length l1_2) (hc1_2 : l1_2.length ≤ c1_2) (hr1_3 : Kd.C (Kd.int .i64) w A1_3 l1_3.length l1_3) (hc1_3 : l1_3.length ≤ c1_3) (h : laws_eqJob.f k a0_0 a0_1 l0_2 l0_3 a0_4 a1_0 a1_1 l1_2 l1_3 a1_4 = some r) :
 Calls Try.prog 83 #[.agg #[.int .i64 a0_0, .int .i64 a0_1, .slice A0_2 l0_2.length c0_2, .slice A0_3 l0_3.length c0_3, .int .i64 a0_4], .agg #[.int .i64 a1_0, .int .i64 a1_1, .slice A1_2 l1_2.length c1_2, .slice A1_3 l1_3.length c1_3, .int .i64 a1_4]] w fun e w' => e = .returned (.bool r) ∧ Below w.heap.size w w' := by
 have hu104 := Try.underlying104; have HR0_2 := ak hr0_2; have HC0_2 := ak hc0_2; clear hr0_2 hc0_2; have HR0_3 := ak hr0_3; have HC0_3 := ak hc0_3; clear hr0_3 hc0_3; have HR1_2 := ak hr1_2; have HC1_2 := ak hc1_2; clear hr1_2 hc1_2; have HR1_3 := ak hr1_3; have HC1_3 := ak hc1_3; clear hr1_3 hc1_3; have HB := ak (Below.refl w.heap.size w); have H : (if a0_0 = a1_0 then (if a0_1 = a1_1 then ((laws_eqIntS.f k l0_2 l1_2).bind fun t368 => (if t368 = true then ((laws_eqIntS.f k l0_3 l1_3).bind fun t369 => (if t369 = true then (if a0_4 = a1_4 then (some true) else (some false)) else (some false))) else (some false))) else (some false)) else (some false)) = some r := h; clear h
 by_cases c3 : a0_0 = a1_0; rotate_left
 · rw [if_neg c3] at H; have c3b0 : (a0_0 == a1_0) = false := beq_eq_false_iff_ne.mpr c3; have c3b1 : (a0_0 != a1_0) = true := bne_iff_ne.mpr c3; obtain rfl := Option.some.inj H; go_enter Try.func83, Try.ntmps83
   go_wp2_with (first | ((with_reducible refine gate_dst (N := 2) rfl ?_); refine boxA 2 #[.int .i64 a0_0, .int .i64 a0_1, .slice A0_2 l0_2.length c0_2, .slice A0_3 l0_3.length c0_3, .int .i64 a0_4] 104 ?_; intro gb366 hg w35 hbox hb; have BK366 := ak hbox; have GW366 := leA (w := w) hg; have GE366 := leA (w := w) hg; replace HB := bS hb; clear hb hbox hg) | ((with_reducible refine gate_dst (N := 3) rfl ?_); refine boxA 3 #[.int .i64 a1_0, .int .i64 a1_1, .slice A1_2 l1_2.length c1_2, .slice A1_3 l1_3.length c1_3, .int .i64 a1_4] 104 ?_; intro gb367 hg w36 hbox hb; have BK367 := ak hbox; have GW367 := leA (w := w) hg; have GE367 := leA (w := w) hg; have NB366_367 := neL hg BK366; have NB367_366 := neG hg BK366; replace BK366 := bB BK366 hb; replace HB := bS hb; clear hb hbox hg; have hnb37 := NB366_367.out; have hnc37 := NB367_366.out; obtain ⟨_, _, _, _, _, _, _, _, _, _⟩ := cel5 BK366; obtain ⟨_, _, _, _, _, _, _, _, _, _⟩ := cel5 BK367))
   go_ret
   exact ⟨xq1, belA⟩
 rw [if_pos c3] at H; have c3b0 : (a0_0 == a1_0) = true := beq_iff_eq.mpr c3; have c3b1 : (a0_0 != a1_0) = false := bne_eq_false_iff_eq.mpr c3; clear c3
 by_cases c4 : a0_1 = a1_1; rotate_left
 · rw [if_neg c4] at H; have c4b0 : (a0_1 == a1_1) = false := beq_eq_false_iff_ne.mpr c4; have c4b1 : (a0_1 != a1_1) = true := bne_iff_ne.mpr c4; obtain rfl := Option.some.inj H; go_enter Try.func83, Try.ntmps83
   go_wp2_with (first | ((with_reducible refine gate_dst (N := 2) rfl ?_); refine boxA 2 #[.int .i64 a0_0, .int .i64 a0_1, .slice A0_2 l0_2.length c0_2, .slice A0_3 l0_3.length c0_3, .int .i64 a0_4] 104 ?_; intro gb366 hg w30 hbox hb; have BK366 := ak hbox; have GW366 := leA (w := w) hg; have GE366 := leA (w := w) hg; replace HB := bS hb; clear hb hbox hg) | ((with_reducible refine gate_dst (N := 3) rfl ?_); refine boxA 3 #[.int .i64 a1_0, .int .i64 a1_1, .slice A1_2 l1_2.length c1_2, .slice A1_3 l1_3.length c1_3, .int .i64 a1_4] 104 ?_; intro gb367 hg w31 hbox hb; have BK367 := ak hbox; have GW367 := leA (w := w) hg; have GE367 := leA (w := w) hg; have NB366_367 := neL hg BK366; have NB367_366 := neG hg BK366; replace BK366 := bB BK366 hb; replace HB := bS hb; clear hb hbox hg; have hnb32 := NB366_367.out; have hnc32 := NB367_366.out; obtain ⟨_, _, _, _, _, _, _, _, _, _⟩ := cel5 BK366; obtain ⟨_, _, _, _, _, _, _, _, _, _⟩ := cel5 BK367))
   go_ret
   exact ⟨xq1, belA⟩
 rw [if_pos c4] at H; have c4b0 : (a0_1 == a1_1) = true := beq_iff_eq.mpr c4; have c4b1 : (a0_1 != a1_1) = false := bne_eq_false_iff_eq.mpr c4; clear c4; replace H := Option.bind_eq_some_iff.mp H; obtain ⟨t368, A50, H⟩ := H; (try dsimp only at H); have A5 := ak A50; clear A50
 by_cases c6 : t368 = true; rotate_left
 · replace c6 := Bool.eq_false_iff.mpr c6; subst c6; have H1 : (some false) = some r := by rw [if_neg (show ¬ (false = true) by decide)] at H; exact H
   clear H; have H := H1; clear H1; obtain rfl := Option.some.inj H; go_enter Try.func83, Try.ntmps83
   go_wp2_with (first | ((with_reducible refine gate_dst (N := 2) rfl ?_); refine boxA 2 #[.int .i64 a0_0, .int .i64 a0_1, .slice A0_2 l0_2.length c0_2, .slice A0_3 l0_3.length c0_3, .int .i64 a0_4] 104 ?_; intro gb366 hg w25 hbox hb; have BK366 := ak hbox; have GW366 := leA (w := w) hg; have GE366 := leA (w := w) hg; replace HB := bS hb; clear hb hbox hg) | ((with_reducible refine gate_dst (N := 3) rfl ?_); refine boxA 3 #[.int .i64 a1_0, .int .i64 a1_1, .slice A1_2 l1_2.length c1_2, .slice A1_3 l1_3.length c1_3, .int .i64 a1_4] 104 ?_; intro gb367 hg w26 hbox hb; have BK367 := ak hbox; have GW367 := leA (w := w) hg; have GE367 := leA (w := w) hg; have NB366_367 := neL hg BK366; have NB367_366 := neG hg BK366; replace BK366 := bB BK366 hb; replace HB := bS hb; clear hb hbox hg; have hnb27 := NB366_367.out; have hnc27 := NB367_366.out; obtain ⟨_, _, _, _, _, _, _, _, _, _⟩ := cel5 BK366; obtain ⟨_, _, _, _, _, _, _, _, _, _⟩ := cel5 BK367) | ((with_reducible refine gate_callee (f := 40) rfl ?_); refine goB 19 Try.func40 #[.slice A0_2 l0_2.length c0_2, .slice A1_2 l1_2.length c1_2] rfl ?_; (with_reducible refine (laws_eqIntS.calls k _ _ l0_2 _ _ l1_2 false _ ?side1 ?side2 ?side3 ?side4 A5.out).mono ?_); (case side1 => exact cA (Kd.C_below HR0_2.out HB.out)); (case side2 => exact HC0_2.out); (case side3 => exact cA (Kd.C_below HR1_2.out HB.out)); (case side4 => exact HC1_2.out); rintro e w' ⟨rfl, ⟨nd, rfl⟩⟩; refine ⟨_, rfl, ?_⟩))
   go_ret
   exact ⟨xq1, belA⟩
 subst c6; have H1 : ((laws_eqIntS.f k l0_3 l1_3).bind fun t369 => (if t369 = true then (if a0_4 = a1_4 then (some true) else (some false)) else (some false))) = some r := by rw [if_pos rfl] at H; exact H
 clear H; have H := H1; clear H1; replace H := Option.bind_eq_some_iff.mp H; obtain ⟨t369, A70, H⟩ := H; (try dsimp only at H); have A7 := ak A70; clear A70
 by_cases c8 : t369 = true; rotate_left
 · replace c8 := Bool.eq_false_iff.mpr c8; subst c8; have H1 : (some false) = some r := by rw [if_neg (show ¬ (false = true) by decide)] at H; exact H
   clear H; have H := H1; clear H1; obtain rfl := Option.some.inj H; go_enter Try.func83, Try.ntmps83
   go_wp2_with (first | ((with_reducible refine gate_dst (N := 2) rfl ?_); refine boxA 2 #[.int .i64 a0_0, .int .i64 a0_1, .slice A0_2 l0_2.length c0_2, .slice A0_3 l0_3.length c0_3, .int .i64 a0_4] 104 ?_; intro gb366 hg w20 hbox hb; have BK366 := ak hbox; have GW366 := leA (w := w) hg; have GE366 := leA (w := w) hg; replace HB := bS hb; clear hb hbox hg) | ((with_reducible refine gate_dst (N := 3) rfl ?_); refine boxA 3 #[.int .i64 a1_0, .int .i64 a1_1, .slice A1_2 l1_2.length c1_2, .slice A1_3 l1_3.length c1_3, .int .i64 a1_4] 104 ?_; intro gb367 hg w21 hbox hb; have BK367 := ak hbox; have GW367 := leA (w := w) hg; have GE367 := leA (w := w) hg; have NB366_367 := neL hg BK366; have NB367_366 := neG hg BK366; replace BK366 := bB BK366 hb; replace HB := bS hb; clear hb hbox hg; have hnb22 := NB366_367.out; have hnc22 := NB367_366.out; obtain ⟨_, _, _, _, _, _, _, _, _, _⟩ := cel5 BK366; obtain ⟨_, _, _, _, _, _, _, _, _, _⟩ := cel5 BK367) | ((with_reducible refine gate_callee (f := 40) rfl ?_); refine goB 19 Try.func40 #[.slice A0_2 l0_2.length c0_2, .slice A1_2 l1_2.length c1_2] rfl ?_; (with_reducible refine (laws_eqIntS.calls k _ _ l0_2 _ _ l1_2 true _ ?side1 ?side2 ?side3 ?side4 A5.out).mono ?_); (case side1 => exact cA (Kd.C_below HR0_2.out HB.out)); (case side2 => exact HC0_2.out); (case side3 => exact cA (Kd.C_below HR1_2.out HB.out)); (case side4 => exact HC1_2.out); rintro e w' ⟨rfl, ⟨nd, rfl⟩⟩; refine ⟨_, rfl, ?_⟩) | ((with_reducible refine gate_callee (f := 40) rfl ?_); refine goB 25 Try.func40 #[.slice A0_3 l0_3.length c0_3, .slice A1_3 l1_3.length c1_3] rfl ?_; (with_reducible refine (laws_eqIntS.calls k _ _ l0_3 _ _ l1_3 false _ ?side1 ?side2 ?side3 ?side4 A7.out).mono ?_); (case side1 => exact cA (Kd.C_below HR0_3.out belA)); (case side2 => exact HC0_3.out); (case side3 => exact cA (Kd.C_below HR1_3.out belA)); (case side4 => exact HC1_3.out); rintro e w' ⟨rfl, ⟨nd, rfl⟩⟩; refine ⟨_, rfl, ?_⟩))
   go_ret
   exact ⟨xq1, belA⟩
 subst c8; have H1 : (if a0_4 = a1_4 then (some true) else (some false)) = some r := by rw [if_pos rfl] at H; exact H
 clear H; have H := H1; clear H1
 by_cases c9 : a0_4 = a1_4; rotate_left
 · rw [if_neg c9] at H; have c9b0 : (a0_4 == a1_4) = false := beq_eq_false_iff_ne.mpr c9; have c9b1 : (a0_4 != a1_4) = true := bne_iff_ne.mpr c9; obtain rfl := Option.some.inj H; go_enter Try.func83, Try.ntmps83
   go_wp2_with (first | ((with_reducible refine gate_dst (N := 2) rfl ?_); refine boxA 2 #[.int .i64 a0_0, .int .i64 a0_1, .slice A0_2 l0_2.length c0_2, .slice A0_3 l0_3.length c0_3, .int .i64 a0_4] 104 ?_; intro gb366 hg w15 hbox hb; have BK366 := ak hbox; have GW366 := leA (w := w) hg; have GE366 := leA (w := w) hg; replace HB := bS hb; clear hb hbox hg) | ((with_reducible refine gate_dst (N := 3) rfl ?_); refine boxA 3 #[.int .i64 a1_0, .int .i64 a1_1, .slice A1_2 l1_2.length c1_2, .slice A1_3 l1_3.length c1_3, .int .i64 a1_4] 104 ?_; intro gb367 hg w16 hbox hb; have BK367 := ak hbox; have GW367 := leA (w := w) hg; have GE367 := leA (w := w) hg; have NB366_367 := neL hg BK366; have NB367_366 := neG hg BK366; replace BK366 := bB BK366 hb; replace HB := bS hb; clear hb hbox hg; have hnb17 := NB366_367.out; have hnc17 := NB367_366.out; obtain ⟨_, _, _, _, _, _, _, _, _, _⟩ := cel5 BK366; obtain ⟨_, _, _, _, _, _, _, _, _, _⟩ := cel5 BK367) | ((with_reducible refine gate_callee (f := 40) rfl ?_); refine goB 19 Try.func40 #[.slice A0_2 l0_2.length c0_2, .slice A1_2 l1_2.length c1_2] rfl ?_; (with_reducible refine (laws_eqIntS.calls k _ _ l0_2 _ _ l1_2 true _ ?side1 ?side2 ?side3 ?side4 A5.out).mono ?_); (case side1 => exact cA (Kd.C_below HR0_2.out HB.out)); (case side2 => exact HC0_2.out); (case side3 => exact cA (Kd.C_below HR1_2.out HB.out)); (case side4 => exact HC1_2.out); rintro e w' ⟨rfl, ⟨nd, rfl⟩⟩; refine ⟨_, rfl, ?_⟩) | ((with_reducible refine gate_callee (f := 40) rfl ?_); refine goB 25 Try.func40 #[.slice A0_3 l0_3.length c0_3, .slice A1_3 l1_3.length c1_3] rfl ?_; (with_reducible refine (laws_eqIntS.calls k _ _ l0_3 _ _ l1_3 true _ ?side1 ?side2 ?side3 ?side4 A7.out).mono ?_); (case side1 => exact cA (Kd.C_below HR0_3.out belA)); (case side2 => exact HC0_3.out); (case side3 => exact cA (Kd.C_below HR1_3.out belA)); (case side4 => exact HC1_3.out); rintro e w' ⟨rfl, ⟨nd, rfl⟩⟩; refine ⟨_, rfl, ?_⟩))
   go_ret
   exact ⟨xq1, belA⟩
 rw [if_pos c9] at H; have c9b0 : (a0_4 == a1_4) = true := beq_iff_eq.mpr c9; have c9b1 : (a0_4 != a1_4) = false := bne_eq_false_iff_eq.mpr c9; clear c9; obtain rfl := Option.some.inj H; go_enter Try.func83, Try.ntmps83
 go_wp2_with (first | ((with_reducible refine gate_dst (N := 2) rfl ?_); refine boxA 2 #[.int .i64 a0_0, .int .i64 a0_1, .slice A0_2 l0_2.length c0_2, .slice A0_3 l0_3.length c0_3, .int .i64 a0_4] 104 ?_; intro gb366 hg w10 hbox hb; have BK366 := ak hbox; have GW366 := leA (w := w) hg; have GE366 := leA (w := w) hg; replace HB := bS hb; clear hb hbox hg) | ((with_reducible refine gate_dst (N := 3) rfl ?_); refine boxA 3 #[.int .i64 a1_0, .int .i64 a1_1, .slice A1_2 l1_2.length c1_2, .slice A1_3 l1_3.length c1_3, .int .i64 a1_4] 104 ?_; intro gb367 hg w11 hbox hb; have BK367 := ak hbox; have GW367 := leA (w := w) hg; have GE367 := leA (w := w) hg; have NB366_367 := neL hg BK366; have NB367_366 := neG hg BK366; replace BK366 := bB BK366 hb; replace HB := bS hb; clear hb hbox hg; have hnb12 := NB366_367.out; have hnc12 := NB367_366.out; obtain ⟨_, _, _, _, _, _, _, _, _, _⟩ := cel5 BK366; obtain ⟨_, _, _, _, _, _, _, _, _, _⟩ := cel5 BK367) | ((with_reducible refine gate_callee (f := 40) rfl ?_); refine goB 19 Try.func40 #[.slice A0_2 l0_2.length c0_2, .slice A1_2 l1_2.length c1_2] rfl ?_; (with_reducible refine (laws_eqIntS.calls k _ _ l0_2 _ _ l1_2 true _ ?side1 ?side2 ?side3 ?side4 A5.out).mono ?_); (case side1 => exact cA (Kd.C_below HR0_2.out HB.out)); (case side2 => exact HC0_2.out); (case side3 => exact cA (Kd.C_below HR1_2.out HB.out)); (case side4 => exact HC1_2.out); rintro e w' ⟨rfl, ⟨nd, rfl⟩⟩; refine ⟨_, rfl, ?_⟩) | ((with_reducible refine gate_callee (f := 40) rfl ?_); refine goB 25 Try.func40 #[.slice A0_3 l0_3.length c0_3, .slice A1_3 l1_3.length c1_3] rfl ?_; (with_reducible refine (laws_eqIntS.calls k _ _ l0_3 _ _ l1_3 true _ ?side1 ?side2 ?side3 ?side4 A7.out).mono ?_); (case side1 => exact cA (Kd.C_below HR0_3.out belA)); (case side2 => exact HC0_3.out); (case side3 => exact cA (Kd.C_below HR1_3.out belA)); (case side4 => exact HC1_3.out); rintro e w' ⟨rfl, ⟨nd, rfl⟩⟩; refine ⟨_, rfl, ?_⟩))
 go_ret
 exact ⟨xq1, belA⟩

def laws_eqJobS.l0 : Nat → List (S104) → List (S104) → Int → Option (Bool)
 | 0, _, _, _ => none
 | k + 1, x0, x1, x5 => if x5 < (x0.length : Int) then (if 0 ≤ x5 then (if x5 < (x1.length : Int) then ((laws_eqJob.f k ((rd_T104 x0 x5).f0) ((rd_T104 x0 x5).f1) ((rd_T104 x0 x5).f2) ((rd_T104 x0 x5).f3) ((rd_T104 x0 x5).f4) ((rd_T104 x1 x5).f0) ((rd_T104 x1 x5).f1) ((rd_T104 x1 x5).f2) ((rd_T104 x1 x5).f3) ((rd_T104 x1 x5).f4)).bind fun t372 => (if t372 = true then (laws_eqJobS.l0 k x0 x1 (wrap64 (x5 + 1))) else (some false))) else (none)) else (none)) else (some true)
def laws_eqJobS.f (k : Nat) (l0 : List (S104)) (l1 : List (S104)) : Option (Bool) := if (l0.length : Int) = (l1.length : Int) then (laws_eqJobS.l0 k l0 l1 0) else (some false)
theorem laws_eqJobS.mono_l : ∀ k, (∀ y0 y1 y2, LeO (laws_eqJobS.l0 k y0 y1 y2) (laws_eqJobS.l0 (k + 1) y0 y1 y2))
 | 0 => fun _ _ _ r h => by simp [laws_eqJobS.l0] at h
 | k + 1 => by
  have ih0 := laws_eqJobS.mono_l k
  · intro y0 y1 y2; unfold laws_eqJobS.l0; exact xq52
theorem laws_eqJobS.mono : ∀ a0 a1 k, LeO (laws_eqJobS.f k a0 a1) (laws_eqJobS.f (k + 1) a0 a1) := by
 intro a0 a1 k; have ih0 := laws_eqJobS.mono_l k
 unfold laws_eqJobS.f
 exact xq52
def laws_eqJobS.T6 : Bool × List (List Nat × List Nat) := (true, [([], []), ([], []), ([0, 1], [0, 1]), ([2], [2]), ([], []), ([], []), ([4, 5], [4, 5]), ([6], [6]), ([3, 7], [3, 7]), ([8], [8])])
def laws_eqJobS.B6 : List Nat := [0, 0, 3, 7, 0, 0, 48, 112, 255, 511]
theorem laws_eqJobS.tab6 : rtab .any (opsOf Try.f26 6) = laws_eqJobS.T6 := by kernel_rfl
theorem laws_eqJobS.bits6 : waitsOk laws_eqJobS.T6.2 laws_eqJobS.B6 = true := by kernel_rfl
theorem laws_eqJobS.calls (k : Nat) (A0 : Option Addr) (c0 : Nat) (l0 : List (S104)) (A1 : Option Addr) (c1 : Nat) (l1 : List (S104)) (r : Bool) (w : World) (hr0 : Kd.C k104 w A0 l0.length l0) (hc0 : l0.length ≤ c0) (hr1 : Kd.C k104 w A1 l1.length l1) (hc1 : l1.length ≤ c1) (h : laws_eqJobS.f k l0 l1 = some r) :
 Calls Try.prog 26 #[.slice A0 l0.length c0, .slice A1 l1.length c1] w fun e w' => e = .returned (.bool r) ∧ Below w.heap.size w w' := by
 have hu104 := Try.underlying104; have HR0 := ak hr0; have HC0 := ak hc0; clear hr0 hc0; have HR1 := ak hr1; have HC1 := ak hc1; clear hr1 hc1; have HB := ak (Below.refl w.heap.size w); have H : (if (l0.length : Int) = (l1.length : Int) then (laws_eqJobS.l0 k l0 l1 0) else (some false)) = some r := h; clear h
 by_cases c3 : (l0.length : Int) = (l1.length : Int); rotate_left
 · rw [if_neg c3] at H; have c3b0 : ((l0.length : Int) == (l1.length : Int)) = false := beq_eq_false_iff_ne.mpr c3; have c3b1 : ((l0.length : Int) != (l1.length : Int)) = true := bne_iff_ne.mpr c3; have c3b2 : (l0.length == l1.length) = false := by first | simpa using c3 | (simp at c3 ⊢; omega)
   obtain rfl := Option.some.inj H; go_enter Try.func26, Try.ntmps26
   go_wp2
   go_ret
   exact ⟨xq1, belA⟩
 rw [if_pos c3] at H; have c3b0 : ((l0.length : Int) == (l1.length : Int)) = true := beq_iff_eq.mpr c3; have c3b1 : ((l0.length : Int) != (l1.length : Int)) = false := bne_eq_false_iff_eq.mpr c3; have c3b2 : (l0.length == l1.length) = true := by first | simpa using c3 | (simp at c3 ⊢; omega)
 clear c3; have H' := ak H; clear H; go_enter Try.func26, Try.ntmps26
 go_wp2
 go_loopg [5] k (fun kq v5 w' => ∃ (x5_1 : Int), v5 = .int .i64 x5_1 ∧ Aside0 (laws_eqJobS.l0 kq l0 l1 x5_1 = some r) ∧ Aside0 (kq ≤ k) ∧ Aside0 (Below w.heap.size w w'))
 case atStart => exact ⟨(0), eqA, H', ⟨Nat.le_refl _⟩, ⟨belA⟩⟩
 case round =>
  clear H'; obtain ⟨x5_1, rfl, HA, HK1, HB⟩ := hrel
  cases gk with
  | zero => exact absurd HA.out (by simp [laws_eqJobS.l0])
  | succ k1 =>
   have H := HA.out; clear HA; simp only [laws_eqJobS.l0] at H
   by_cases c4 : x5_1 < (l0.length : Int); rotate_left
   · rw [if_neg c4] at H; have c4b0 := decide_eq_false c4; clear c4; obtain rfl := Option.some.inj H; go_wp2
     go_ret
     exact ⟨xq1, belA⟩
   rw [if_pos c4] at H; have c4b0 := decide_eq_true c4; clear c4
   by_cases c5 : 0 ≤ x5_1; rotate_left
   · rw [if_neg c5] at H; exact absurd H (by simp)
   rw [if_pos c5] at H; have c5b0 := decide_eq_true c5; clear c5
   by_cases c6 : x5_1 < (l1.length : Int); rotate_left
   · rw [if_neg c6] at H; exact absurd H (by simp)
   rw [if_pos c6] at H; have c6b0 := decide_eq_true c6; clear c6; replace H := Option.bind_eq_some_iff.mp H; obtain ⟨t372, A70, H⟩ := H; (try dsimp only at H); have A7 := ak A70; clear A70
   by_cases c8 : t372 = true
   · subst c8; have H1 : (laws_eqJobS.l0 k1 l0 l1 (wrap64 (x5_1 + 1))) = some r := by rw [if_pos rfl] at H; exact H
     clear H; have H := H1; clear H1; have H' := ak H; clear H; try go_wp2
     replace HB := ak (below_drew1 HB.out); have p370 : 0 ≤ (x5_1 : Int) := odA; have q370 : x5_1 < (l0.length : Int) := odA; obtain ⟨ad370, A370_2, c370_2, A370_3, c370_3, e370, hx370_0, hx370_1, hx370_2, hx370_3, hx370_4, hl370_2, hi370_2, hl370_3, hi370_3⟩ := at_T104 HR0.out x5_1 p370 q370; have hw370_4 := hx370_4; have hw370_3 := hx370_3; have hw370_2 := hx370_2; have hw370_1 := hx370_1; have hw370_0 := hx370_0
     cases e370
     try replace hx370_0 := cB HB hx370_0
     try replace hx370_1 := cB HB hx370_1
     try replace hx370_2 := cB HB hx370_2
     try replace hx370_3 := cB HB hx370_3
     try replace hx370_4 := cB HB hx370_4
     have HR370_2 := ak hi370_2; have HC370_2 := ak hl370_2; clear hi370_2 hl370_2; have HR370_3 := ak hi370_3; have HC370_3 := ak hl370_3; clear hi370_3 hl370_3; replace p370 := eq_true p370; replace q370 := eq_true q370; have p371 : 0 ≤ (x5_1 : Int) := odA; have q371 : x5_1 < (l1.length : Int) := odA; obtain ⟨ad371, A371_2, c371_2, A371_3, c371_3, e371, hx371_0, hx371_1, hx371_2, hx371_3, hx371_4, hl371_2, hi371_2, hl371_3, hi371_3⟩ := at_T104 HR1.out x5_1 p371 q371; have hw371_4 := hx371_4; have hw371_3 := hx371_3; have hw371_2 := hx371_2; have hw371_1 := hx371_1; have hw371_0 := hx371_0
     cases e371
     try replace hx371_0 := cB HB hx371_0
     try replace hx371_1 := cB HB hx371_1
     try replace hx371_2 := cB HB hx371_2
     try replace hx371_3 := cB HB hx371_3
     try replace hx371_4 := cB HB hx371_4
     have HR371_2 := ak hi371_2; have HC371_2 := ak hl371_2; clear hi371_2 hl371_2; have HR371_3 := ak hi371_3; have HC371_3 := ak hl371_3; clear hi371_3 hl371_3; replace p371 := eq_true p371; replace q371 := eq_true q371; refine start_ (n := 10) (S := fun w' => w'.cell? (ad370.add ((x5_1).toNat * 5)) = some (.int .i64 ((rd_T104 l0 x5_1).f0)) ∧ w'.cell? ⟨(ad370.add ((x5_1).toNat * 5)).block, (ad370.add ((x5_1).toNat * 5)).off + 1, none⟩ = some (.int .i64 ((rd_T104 l0 x5_1).f1)) ∧ w'.cell? ⟨(ad370.add ((x5_1).toNat * 5)).block, (ad370.add ((x5_1).toNat * 5)).off + 2, none⟩ = some (.slice A370_2 ((rd_T104 l0 x5_1).f2).length c370_2) ∧ w'.cell? ⟨(ad370.add ((x5_1).toNat * 5)).block, (ad370.add ((x5_1).toNat * 5)).off + 3, none⟩ = some (.slice A370_3 ((rd_T104 l0 x5_1).f3).length c370_3) ∧ w'.cell? ⟨(ad370.add ((x5_1).toNat * 5)).block, (ad370.add ((x5_1).toNat * 5)).off + 4, none⟩ = some (.int .i64 ((rd_T104 l0 x5_1).f4)) ∧ w'.cell? (ad371.add ((x5_1).toNat * 5)) = some (.int .i64 ((rd_T104 l1 x5_1).f0)) ∧ w'.cell? ⟨(ad371.add ((x5_1).toNat * 5)).block, (ad371.add ((x5_1).toNat * 5)).off + 1, none⟩ = some (.int .i64 ((rd_T104 l1 x5_1).f1)) ∧ w'.cell? ⟨(ad371.add ((x5_1).toNat * 5)).block, (ad371.add ((x5_1).toNat * 5)).off + 2, none⟩ = some (.slice A371_2 ((rd_T104 l1 x5_1).f2).length c371_2) ∧ w'.cell? ⟨(ad371.add ((x5_1).toNat * 5)).block, (ad371.add ((x5_1).toNat * 5)).off + 3, none⟩ = some (.slice A371_3 ((rd_T104 l1 x5_1).f3).length c371_3) ∧ w'.cell? ⟨(ad371.add ((x5_1).toNat * 5)).block, (ad371.add ((x5_1).toNat * 5)).off + 4, none⟩ = some (.int .i64 ((rd_T104 l1 x5_1).f4))) (ds := []) #[false, false, false, false, false, false, false, false, false, false] (by kernel_rfl) rfl rfl ⟨((HB.out.cell (World.block_lt_of_cell? w _ hw370_0)).trans hw370_0), ((HB.out.cell (World.block_lt_of_cell? w _ hw370_1)).trans hw370_1), ((HB.out.cell (World.block_lt_of_cell? w _ hw370_2)).trans hw370_2), ((HB.out.cell (World.block_lt_of_cell? w _ hw370_3)).trans hw370_3), ((HB.out.cell (World.block_lt_of_cell? w _ hw370_4)).trans hw370_4), ((HB.out.cell (World.block_lt_of_cell? w _ hw371_0)).trans hw371_0), ((HB.out.cell (World.block_lt_of_cell? w _ hw371_1)).trans hw371_1), ((HB.out.cell (World.block_lt_of_cell? w _ hw371_2)).trans hw371_2), ((HB.out.cell (World.block_lt_of_cell? w _ hw371_3)).trans hw371_3), ((HB.out.cell (World.block_lt_of_cell? w _ hw371_4)).trans hw371_4)⟩ (fun hHeld => ?_); refine with_tabW laws_eqJobS.tab6 laws_eqJobS.bits6 (fun HT_ HW_ => ?_)
     generalize wr.drew = w9 at HB HR370_2 HR370_3 HR371_2 HR371_3 hx370_0 hx370_1 hx370_2 hx370_3 hx370_4 hx371_0 hx371_1 hx371_2 hx371_3 hx371_4 hHeld ⊢
     refine pure_ (i := 0) (N := some 17) (v := ?_) (a' := ?_) #[true, false, false, false, false, false, false, false, false, false] rfl rfl (any_of HT_.out (by kernel_rfl)) (fun _ _ _ h => h) (Or.inl ⟨by rfl, ?_⟩) ?_ ?_
     rotate_left
     · intro w'; go_simp
       with_reducible rfl
     rotate_left
     · simp only [Act.put, sa, sb, sc, i64_w, i32_w]
       rfl
     refine pure_ (i := 1) (N := some 18) (v := ?_) (a' := ?_) #[true, true, false, false, false, false, false, false, false, false] rfl rfl (any_of HT_.out (by kernel_rfl)) (fun _ _ _ h => h) (Or.inl ⟨by rfl, ?_⟩) ?_ ?_
     rotate_left
     · intro w'; go_simp
       with_reducible rfl
     rotate_left
     · simp only [Act.put, sa, sb, sc, i64_w, i32_w]
       rfl
     refine pure_ (i := 2) (N := some 19) (v := ?_) (a' := ?_) #[true, true, true, false, false, false, false, false, false, false] rfl rfl (any_of HT_.out (by kernel_rfl)) (fun _ _ _ h => h) (Or.inl ⟨by rfl, ?_⟩) ?_ ?_
     rotate_left
     · intro w'; go_simp
       with_reducible rfl
     rotate_left
     · simp only [Act.put, sa, sb, sc, i64_w, i32_w]
       rfl
     refine pure_ (i := 4) (N := some 21) (v := ?_) (a' := ?_) #[true, true, true, false, true, false, false, false, false, false] rfl rfl (any_of HT_.out (by kernel_rfl)) (fun _ _ _ h => h) (Or.inl ⟨by rfl, ?_⟩) ?_ ?_
     rotate_left
     · intro w'; go_simp
       with_reducible rfl
     rotate_left
     · simp only [Act.put, sa, sb, sc, i64_w, i32_w]
       rfl
     refine pure_ (i := 5) (N := some 22) (v := ?_) (a' := ?_) #[true, true, true, false, true, true, false, false, false, false] rfl rfl (any_of HT_.out (by kernel_rfl)) (fun _ _ _ h => h) (Or.inl ⟨by rfl, ?_⟩) ?_ ?_
     rotate_left
     · intro w'; go_simp
       with_reducible rfl
     rotate_left
     · simp only [Act.put, sa, sb, sc, i64_w, i32_w]
       rfl
     refine pure_ (i := 6) (N := some 23) (v := ?_) (a' := ?_) #[true, true, true, false, true, true, true, false, false, false] rfl rfl (any_of HT_.out (by kernel_rfl)) (fun _ _ _ h => h) (Or.inl ⟨by rfl, ?_⟩) ?_ ?_
     rotate_left
     · intro w'; go_simp
       with_reducible rfl
     rotate_left
     · simp only [Act.put, sa, sb, sc, i64_w, i32_w]
       rfl
     refine take_ (i := 3) (N := some 20) (v := ?_) (a' := ?_) #[true, true, true, true, true, true, true, false, false, false] rfl rfl (take_ofW HT_.out HW_.out (by kernel_rfl)) (fun _ _ _ h => h) (Or.inl ⟨by rfl, ?_⟩) hHeld ?_ ?_
     rotate_left
     · rintro w' ⟨s0, s1, s2, s3, s4, s5, s6, s7, s8, s9⟩
       go_simp
       with_reducible rfl
     rotate_left
     · simp only [Act.put, sa, sb, sc, i64_w, i32_w]
       rfl
     refine take_ (i := 7) (N := some 24) (v := ?_) (a' := ?_) #[true, true, true, true, true, true, true, true, false, false] rfl rfl (take_ofW HT_.out HW_.out (by kernel_rfl)) (fun _ _ _ h => h) (Or.inl ⟨by rfl, ?_⟩) hHeld ?_ ?_
     rotate_left
     · rintro w' ⟨s0, s1, s2, s3, s4, s5, s6, s7, s8, s9⟩
       go_simp
       with_reducible rfl
     rotate_left
     · simp only [Act.put, sa, sb, sc, i64_w, i32_w]
       rfl
     refine one_ (i := 8) (N := some 25) #[true, true, true, true, true, true, true, true, true, false] rfl rfl (one_of HT_.out (by kernel_rfl)) (by decide) (fun K hK => ?_)
     refine goes_ Try.func83 (by kernel_rfl) rfl #[.agg #[.int .i64 ((rd_T104 l0 x5_1).f0), .int .i64 ((rd_T104 l0 x5_1).f1), .slice A370_2 ((rd_T104 l0 x5_1).f2).length c370_2, .slice A370_3 ((rd_T104 l0 x5_1).f3).length c370_3, .int .i64 ((rd_T104 l0 x5_1).f4)], .agg #[.int .i64 ((rd_T104 l1 x5_1).f0), .int .i64 ((rd_T104 l1 x5_1).f1), .slice A371_2 ((rd_T104 l1 x5_1).f2).length c371_2, .slice A371_3 ((rd_T104 l1 x5_1).f3).length c371_3, .int .i64 ((rd_T104 l1 x5_1).f4)]] (by rfl) rfl rfl xq8 ?_
     with_reducible refine (laws_eqJob.calls k1 ((rd_T104 l0 x5_1).f0) ((rd_T104 l0 x5_1).f1) _ _ ((rd_T104 l0 x5_1).f2) _ _ ((rd_T104 l0 x5_1).f3) ((rd_T104 l0 x5_1).f4) ((rd_T104 l1 x5_1).f0) ((rd_T104 l1 x5_1).f1) _ _ ((rd_T104 l1 x5_1).f2) _ _ ((rd_T104 l1 x5_1).f3) ((rd_T104 l1 x5_1).f4) true _ ?side1 ?side2 ?side3 ?side4 ?side5 ?side6 ?side7 ?side8 A7.out).mono ?_
     (case side1 => exact cA (Kd.C_below HR370_2.out HB.out))
     (case side2 => exact HC370_2.out)
     (case side3 => exact cA (Kd.C_below HR370_3.out HB.out))
     (case side4 => exact HC370_3.out)
     (case side5 => exact cA (Kd.C_below HR371_2.out HB.out))
     (case side6 => exact HC371_2.out)
     (case side7 => exact cA (Kd.C_below HR371_3.out HB.out))
     (case side8 => exact HC371_3.out)
     rintro e w10 ⟨rfl, hb⟩
     refine ⟨_, rfl, ?_⟩
     replace HB := bS hb; (try clear hb); refine hK.out _ _ ⟨((HB.out.cell (World.block_lt_of_cell? w _ hw370_0)).trans hw370_0), ((HB.out.cell (World.block_lt_of_cell? w _ hw370_1)).trans hw370_1), ((HB.out.cell (World.block_lt_of_cell? w _ hw370_2)).trans hw370_2), ((HB.out.cell (World.block_lt_of_cell? w _ hw370_3)).trans hw370_3), ((HB.out.cell (World.block_lt_of_cell? w _ hw370_4)).trans hw370_4), ((HB.out.cell (World.block_lt_of_cell? w _ hw371_0)).trans hw371_0), ((HB.out.cell (World.block_lt_of_cell? w _ hw371_1)).trans hw371_1), ((HB.out.cell (World.block_lt_of_cell? w _ hw371_2)).trans hw371_2), ((HB.out.cell (World.block_lt_of_cell? w _ hw371_3)).trans hw371_3), ((HB.out.cell (World.block_lt_of_cell? w _ hw371_4)).trans hw371_4)⟩ (fun hHeld => ?_)
     clear hK K; refine norm_ (a' := ?_) ?_ ?_
     rotate_left
     · show Act.put _ (some 25) _ = _
       simp only [Act.put, sa, sb, sc, i64_w, i32_w]
       rfl
     refine pure_ (i := 9) (N := some 26) (v := ?_) (a' := ?_) #[true, true, true, true, true, true, true, true, true, true] rfl rfl (any_of HT_.out (by kernel_rfl)) (fun _ _ _ h => h) (Or.inl ⟨by rfl, ?_⟩) ?_ ?_
     rotate_left
     · intro w'; go_simp
       with_reducible rfl
     rotate_left
     · simp only [Act.put, sa, sb, sc, i64_w, i32_w]
       rfl
     refine done_ (done_of HT_.out (by kernel_rfl)) ?_
     try go_wp2
     go_roundg k1
     case measure => have := HK1.out; omega
     case rel => exact ⟨(wrap64 (x5_1 + 1)), eqA, H', ⟨xq6⟩, ⟨belA⟩⟩
   replace c8 := Bool.eq_false_iff.mpr c8; subst c8; have H1 : (some false) = some r := by rw [if_neg (show ¬ (false = true) by decide)] at H; exact H
   clear H; have H := H1; clear H1; obtain rfl := Option.some.inj H; try go_wp2
   replace HB := ak (below_drew1 HB.out); have p370 : 0 ≤ (x5_1 : Int) := odA; have q370 : x5_1 < (l0.length : Int) := odA; obtain ⟨ad370, A370_2, c370_2, A370_3, c370_3, e370, hx370_0, hx370_1, hx370_2, hx370_3, hx370_4, hl370_2, hi370_2, hl370_3, hi370_3⟩ := at_T104 HR0.out x5_1 p370 q370; have hw370_4 := hx370_4; have hw370_3 := hx370_3; have hw370_2 := hx370_2; have hw370_1 := hx370_1; have hw370_0 := hx370_0
   cases e370
   try replace hx370_0 := cB HB hx370_0
   try replace hx370_1 := cB HB hx370_1
   try replace hx370_2 := cB HB hx370_2
   try replace hx370_3 := cB HB hx370_3
   try replace hx370_4 := cB HB hx370_4
   have HR370_2 := ak hi370_2; have HC370_2 := ak hl370_2; clear hi370_2 hl370_2; have HR370_3 := ak hi370_3; have HC370_3 := ak hl370_3; clear hi370_3 hl370_3; replace p370 := eq_true p370; replace q370 := eq_true q370; have p371 : 0 ≤ (x5_1 : Int) := odA; have q371 : x5_1 < (l1.length : Int) := odA; obtain ⟨ad371, A371_2, c371_2, A371_3, c371_3, e371, hx371_0, hx371_1, hx371_2, hx371_3, hx371_4, hl371_2, hi371_2, hl371_3, hi371_3⟩ := at_T104 HR1.out x5_1 p371 q371; have hw371_4 := hx371_4; have hw371_3 := hx371_3; have hw371_2 := hx371_2; have hw371_1 := hx371_1; have hw371_0 := hx371_0
   cases e371
   try replace hx371_0 := cB HB hx371_0
   try replace hx371_1 := cB HB hx371_1
   try replace hx371_2 := cB HB hx371_2
   try replace hx371_3 := cB HB hx371_3
   try replace hx371_4 := cB HB hx371_4
   have HR371_2 := ak hi371_2; have HC371_2 := ak hl371_2; clear hi371_2 hl371_2; have HR371_3 := ak hi371_3; have HC371_3 := ak hl371_3; clear hi371_3 hl371_3; replace p371 := eq_true p371; replace q371 := eq_true q371; refine start_ (n := 10) (S := fun w' => w'.cell? (ad370.add ((x5_1).toNat * 5)) = some (.int .i64 ((rd_T104 l0 x5_1).f0)) ∧ w'.cell? ⟨(ad370.add ((x5_1).toNat * 5)).block, (ad370.add ((x5_1).toNat * 5)).off + 1, none⟩ = some (.int .i64 ((rd_T104 l0 x5_1).f1)) ∧ w'.cell? ⟨(ad370.add ((x5_1).toNat * 5)).block, (ad370.add ((x5_1).toNat * 5)).off + 2, none⟩ = some (.slice A370_2 ((rd_T104 l0 x5_1).f2).length c370_2) ∧ w'.cell? ⟨(ad370.add ((x5_1).toNat * 5)).block, (ad370.add ((x5_1).toNat * 5)).off + 3, none⟩ = some (.slice A370_3 ((rd_T104 l0 x5_1).f3).length c370_3) ∧ w'.cell? ⟨(ad370.add ((x5_1).toNat * 5)).block, (ad370.add ((x5_1).toNat * 5)).off + 4, none⟩ = some (.int .i64 ((rd_T104 l0 x5_1).f4)) ∧ w'.cell? (ad371.add ((x5_1).toNat * 5)) = some (.int .i64 ((rd_T104 l1 x5_1).f0)) ∧ w'.cell? ⟨(ad371.add ((x5_1).toNat * 5)).block, (ad371.add ((x5_1).toNat * 5)).off + 1, none⟩ = some (.int .i64 ((rd_T104 l1 x5_1).f1)) ∧ w'.cell? ⟨(ad371.add ((x5_1).toNat * 5)).block, (ad371.add ((x5_1).toNat * 5)).off + 2, none⟩ = some (.slice A371_2 ((rd_T104 l1 x5_1).f2).length c371_2) ∧ w'.cell? ⟨(ad371.add ((x5_1).toNat * 5)).block, (ad371.add ((x5_1).toNat * 5)).off + 3, none⟩ = some (.slice A371_3 ((rd_T104 l1 x5_1).f3).length c371_3) ∧ w'.cell? ⟨(ad371.add ((x5_1).toNat * 5)).block, (ad371.add ((x5_1).toNat * 5)).off + 4, none⟩ = some (.int .i64 ((rd_T104 l1 x5_1).f4))) (ds := []) #[false, false, false, false, false, false, false, false, false, false] (by kernel_rfl) rfl rfl ⟨((HB.out.cell (World.block_lt_of_cell? w _ hw370_0)).trans hw370_0), ((HB.out.cell (World.block_lt_of_cell? w _ hw370_1)).trans hw370_1), ((HB.out.cell (World.block_lt_of_cell? w _ hw370_2)).trans hw370_2), ((HB.out.cell (World.block_lt_of_cell? w _ hw370_3)).trans hw370_3), ((HB.out.cell (World.block_lt_of_cell? w _ hw370_4)).trans hw370_4), ((HB.out.cell (World.block_lt_of_cell? w _ hw371_0)).trans hw371_0), ((HB.out.cell (World.block_lt_of_cell? w _ hw371_1)).trans hw371_1), ((HB.out.cell (World.block_lt_of_cell? w _ hw371_2)).trans hw371_2), ((HB.out.cell (World.block_lt_of_cell? w _ hw371_3)).trans hw371_3), ((HB.out.cell (World.block_lt_of_cell? w _ hw371_4)).trans hw371_4)⟩ (fun hHeld => ?_); refine with_tabW laws_eqJobS.tab6 laws_eqJobS.bits6 (fun HT_ HW_ => ?_)
   generalize wr.drew = w11 at HB HR370_2 HR370_3 HR371_2 HR371_3 hx370_0 hx370_1 hx370_2 hx370_3 hx370_4 hx371_0 hx371_1 hx371_2 hx371_3 hx371_4 hHeld ⊢
   refine pure_ (i := 0) (N := some 17) (v := ?_) (a' := ?_) #[true, false, false, false, false, false, false, false, false, false] rfl rfl (any_of HT_.out (by kernel_rfl)) (fun _ _ _ h => h) (Or.inl ⟨by rfl, ?_⟩) ?_ ?_
   rotate_left
   · intro w'; go_simp
     with_reducible rfl
   rotate_left
   · simp only [Act.put, sa, sb, sc, i64_w, i32_w]
     rfl
   refine pure_ (i := 1) (N := some 18) (v := ?_) (a' := ?_) #[true, true, false, false, false, false, false, false, false, false] rfl rfl (any_of HT_.out (by kernel_rfl)) (fun _ _ _ h => h) (Or.inl ⟨by rfl, ?_⟩) ?_ ?_
   rotate_left
   · intro w'; go_simp
     with_reducible rfl
   rotate_left
   · simp only [Act.put, sa, sb, sc, i64_w, i32_w]
     rfl
   refine pure_ (i := 2) (N := some 19) (v := ?_) (a' := ?_) #[true, true, true, false, false, false, false, false, false, false] rfl rfl (any_of HT_.out (by kernel_rfl)) (fun _ _ _ h => h) (Or.inl ⟨by rfl, ?_⟩) ?_ ?_
   rotate_left
   · intro w'; go_simp
     with_reducible rfl
   rotate_left
   · simp only [Act.put, sa, sb, sc, i64_w, i32_w]
     rfl
   refine pure_ (i := 4) (N := some 21) (v := ?_) (a' := ?_) #[true, true, true, false, true, false, false, false, false, false] rfl rfl (any_of HT_.out (by kernel_rfl)) (fun _ _ _ h => h) (Or.inl ⟨by rfl, ?_⟩) ?_ ?_
   rotate_left
   · intro w'; go_simp
     with_reducible rfl
   rotate_left
   · simp only [Act.put, sa, sb, sc, i64_w, i32_w]
     rfl
   refine pure_ (i := 5) (N := some 22) (v := ?_) (a' := ?_) #[true, true, true, false, true, true, false, false, false, false] rfl rfl (any_of HT_.out (by kernel_rfl)) (fun _ _ _ h => h) (Or.inl ⟨by rfl, ?_⟩) ?_ ?_
   rotate_left
   · intro w'; go_simp
     with_reducible rfl
   rotate_left
   · simp only [Act.put, sa, sb, sc, i64_w, i32_w]
     rfl
   refine pure_ (i := 6) (N := some 23) (v := ?_) (a' := ?_) #[true, true, true, false, true, true, true, false, false, false] rfl rfl (any_of HT_.out (by kernel_rfl)) (fun _ _ _ h => h) (Or.inl ⟨by rfl, ?_⟩) ?_ ?_
   rotate_left
   · intro w'; go_simp
     with_reducible rfl
   rotate_left
   · simp only [Act.put, sa, sb, sc, i64_w, i32_w]
     rfl
   refine take_ (i := 3) (N := some 20) (v := ?_) (a' := ?_) #[true, true, true, true, true, true, true, false, false, false] rfl rfl (take_ofW HT_.out HW_.out (by kernel_rfl)) (fun _ _ _ h => h) (Or.inl ⟨by rfl, ?_⟩) hHeld ?_ ?_
   rotate_left
   · rintro w' ⟨s0, s1, s2, s3, s4, s5, s6, s7, s8, s9⟩
     go_simp
     with_reducible rfl
   rotate_left
   · simp only [Act.put, sa, sb, sc, i64_w, i32_w]
     rfl
   refine take_ (i := 7) (N := some 24) (v := ?_) (a' := ?_) #[true, true, true, true, true, true, true, true, false, false] rfl rfl (take_ofW HT_.out HW_.out (by kernel_rfl)) (fun _ _ _ h => h) (Or.inl ⟨by rfl, ?_⟩) hHeld ?_ ?_
   rotate_left
   · rintro w' ⟨s0, s1, s2, s3, s4, s5, s6, s7, s8, s9⟩
     go_simp
     with_reducible rfl
   rotate_left
   · simp only [Act.put, sa, sb, sc, i64_w, i32_w]
     rfl
   refine one_ (i := 8) (N := some 25) #[true, true, true, true, true, true, true, true, true, false] rfl rfl (one_of HT_.out (by kernel_rfl)) (by decide) (fun K hK => ?_)
   refine goes_ Try.func83 (by kernel_rfl) rfl #[.agg #[.int .i64 ((rd_T104 l0 x5_1).f0), .int .i64 ((rd_T104 l0 x5_1).f1), .slice A370_2 ((rd_T104 l0 x5_1).f2).length c370_2, .slice A370_3 ((rd_T104 l0 x5_1).f3).length c370_3, .int .i64 ((rd_T104 l0 x5_1).f4)], .agg #[.int .i64 ((rd_T104 l1 x5_1).f0), .int .i64 ((rd_T104 l1 x5_1).f1), .slice A371_2 ((rd_T104 l1 x5_1).f2).length c371_2, .slice A371_3 ((rd_T104 l1 x5_1).f3).length c371_3, .int .i64 ((rd_T104 l1 x5_1).f4)]] (by rfl) rfl rfl xq8 ?_
   with_reducible refine (laws_eqJob.calls k1 ((rd_T104 l0 x5_1).f0) ((rd_T104 l0 x5_1).f1) _ _ ((rd_T104 l0 x5_1).f2) _ _ ((rd_T104 l0 x5_1).f3) ((rd_T104 l0 x5_1).f4) ((rd_T104 l1 x5_1).f0) ((rd_T104 l1 x5_1).f1) _ _ ((rd_T104 l1 x5_1).f2) _ _ ((rd_T104 l1 x5_1).f3) ((rd_T104 l1 x5_1).f4) false _ ?side1 ?side2 ?side3 ?side4 ?side5 ?side6 ?side7 ?side8 A7.out).mono ?_
   (case side1 => exact cA (Kd.C_below HR370_2.out HB.out))
   (case side2 => exact HC370_2.out)
   (case side3 => exact cA (Kd.C_below HR370_3.out HB.out))
   (case side4 => exact HC370_3.out)
   (case side5 => exact cA (Kd.C_below HR371_2.out HB.out))
   (case side6 => exact HC371_2.out)
   (case side7 => exact cA (Kd.C_below HR371_3.out HB.out))
   (case side8 => exact HC371_3.out)
   rintro e w12 ⟨rfl, hb⟩
   refine ⟨_, rfl, ?_⟩
   replace HB := bS hb; (try clear hb); refine hK.out _ _ ⟨((HB.out.cell (World.block_lt_of_cell? w _ hw370_0)).trans hw370_0), ((HB.out.cell (World.block_lt_of_cell? w _ hw370_1)).trans hw370_1), ((HB.out.cell (World.block_lt_of_cell? w _ hw370_2)).trans hw370_2), ((HB.out.cell (World.block_lt_of_cell? w _ hw370_3)).trans hw370_3), ((HB.out.cell (World.block_lt_of_cell? w _ hw370_4)).trans hw370_4), ((HB.out.cell (World.block_lt_of_cell? w _ hw371_0)).trans hw371_0), ((HB.out.cell (World.block_lt_of_cell? w _ hw371_1)).trans hw371_1), ((HB.out.cell (World.block_lt_of_cell? w _ hw371_2)).trans hw371_2), ((HB.out.cell (World.block_lt_of_cell? w _ hw371_3)).trans hw371_3), ((HB.out.cell (World.block_lt_of_cell? w _ hw371_4)).trans hw371_4)⟩ (fun hHeld => ?_)
   clear hK K; refine norm_ (a' := ?_) ?_ ?_
   rotate_left
   · show Act.put _ (some 25) _ = _
     simp only [Act.put, sa, sb, sc, i64_w, i32_w]
     rfl
   refine pure_ (i := 9) (N := some 26) (v := ?_) (a' := ?_) #[true, true, true, true, true, true, true, true, true, true] rfl rfl (any_of HT_.out (by kernel_rfl)) (fun _ _ _ h => h) (Or.inl ⟨by rfl, ?_⟩) ?_ ?_
   rotate_left
   · intro w'; go_simp
     with_reducible rfl
   rotate_left
   · simp only [Act.put, sa, sb, sc, i64_w, i32_w]
     rfl
   refine done_ (done_of HT_.out (by kernel_rfl)) ?_
   try go_wp2
   go_ret
   exact ⟨xq1, belA⟩

def laws_markIntS.l0 : Nat → List Int → Int → Int → Option (Int × List Int)
 | 0, _, _, _ => none
 | k + 1, x0, x1, x5 => if x5 < (x0.length : Int) then (if 0 ≤ x5 then (laws_markIntS.l0 k (x0.set (x5 : Int).toNat x1) (wrap64 (x1 + 1)) (wrap64 (x5 + 1))) else (none)) else (some (x1, x0))
def laws_markIntS.f (k : Nat) (l0 : List Int) (a1 : Int) : Option (Int × List Int) := laws_markIntS.l0 k l0 a1 0
theorem laws_markIntS.mono_l : ∀ k, (∀ y0 y1 y2, LeO (laws_markIntS.l0 k y0 y1 y2) (laws_markIntS.l0 (k + 1) y0 y1 y2))
 | 0 => fun _ _ _ r h => by simp [laws_markIntS.l0] at h
 | k + 1 => by
  have ih0 := laws_markIntS.mono_l k
  · intro y0 y1 y2; unfold laws_markIntS.l0; exact xq5
theorem laws_markIntS.mono : ∀ a0 a1 k, LeO (laws_markIntS.f k a0 a1) (laws_markIntS.f (k + 1) a0 a1) := by
 intro a0 a1 k; have ih0 := laws_markIntS.mono_l k
 unfold laws_markIntS.f
 exact xq5
theorem laws_markIntS.calls (k : Nat) (P0_ : Nat → Prop) (u9000_ : Value) (l0 : List Int) (a1 : Int) (r1 : Int) (r2 : List Int) (w0 w : World) (hB : Below w0.heap.size w0 w) (ho0 : Kd.R (Kd.int .i64) 3 w w0.heap.size P0_ u9000_ l0) (h : laws_markIntS.f k l0 a1 = some (r1, r2)) :
 Calls Try.prog 41 #[u9000_, .int .i64 a1] w fun e w' => e = .returned (.int .i64 r1) ∧ Kd.R (Kd.int .i64) 3 w' w0.heap.size (fun k_ => (P0_ k_ ∨ w.heap.size ≤ k_)) u9000_ r2 ∧ Below w0.heap.size w0 w' ∧ Kept w w' (fun k_ => P0_ k_) := by
 have HO0 := ak (show Kd.R (Kd.int .i64) 3 w w0.heap.size (fun k_ => (P0_ k_ ∨ w.heap.size ≤ k_)) u9000_ l0 from Kd.R_mono ho0 (fun k_ hk => (.inl hk))); have HK := ak (Kept.refl w (fun k_ => P0_ k_)); have HW0 := ak hB.size; have HB := ak hB; clear hB; have H : (laws_markIntS.l0 k l0 a1 0) = some (r1, r2) := h; clear h; have H' := ak H; clear H; go_enter Try.func41, Try.ntmps41
 go_wp2
 go_loopg [1, 5] k (fun kq v1 v5 w' => ∃ (x0_1 : List Int) (x1_1 : Int) (x5_1 : Int), v1 = .int .i64 x1_1 ∧ v5 = .int .i64 x5_1 ∧ Aside0 (laws_markIntS.l0 kq x0_1 x1_1 x5_1 = some (r1, r2)) ∧ Aside0 (kq ≤ k) ∧ Aside0 (Kd.R (Kd.int .i64) 3 w' w0.heap.size (fun k_ => (P0_ k_ ∨ w.heap.size ≤ k_)) u9000_ x0_1) ∧ Aside0 (Kept w w' (fun k_ => P0_ k_)) ∧ Aside0 (Below w0.heap.size w0 w'))
 case atStart => exact ⟨(l0), (a1), (0), eqA, eqA, H', ⟨Nat.le_refl _⟩, ⟨rA HO0⟩, ⟨kdA⟩, ⟨belA⟩⟩
 case round =>
  clear H'; obtain ⟨x0_1, x1_1, x5_1, rfl, rfl, HA, HK1, HO_0, HK, HB⟩ := hrel
  cases gk with
  | zero => exact absurd HA.out (by simp [laws_markIntS.l0])
  | succ k1 =>
   have H := HA.out; clear HA; simp only [laws_markIntS.l0] at H
   by_cases c3 : x5_1 < (x0_1.length : Int); rotate_left
   · rw [if_neg c3] at H; have c3b0 := decide_eq_false c3; clear c3; simp only [Option.some.injEq, Prod.mk.injEq] at H; obtain ⟨rfl, rfl⟩ := H; obtain ⟨Ao9, co9, eo9⟩ := Kd.R_slice HO_0.out; subst eo9; go_wp2
     go_ret
     exact ⟨xq1, xq17, belA, xq18⟩
   rw [if_pos c3] at H; have c3b0 := decide_eq_true c3; clear c3
   by_cases c4 : 0 ≤ x5_1; rotate_left
   · rw [if_neg c4] at H; exact absurd H (by simp)
   rw [if_pos c4] at H; have c4b0 := decide_eq_true c4; clear c4; obtain ⟨y373, hyq⟩ : ∃ y_ : List Int, y_ = (x0_1.set (x5_1 : Int).toNat x1_1) := ⟨_, rfl⟩; replace H : (laws_markIntS.l0 k1 y373 (wrap64 (x1_1 + 1)) (wrap64 (x5_1 + 1))) = some (r1, r2) := by first | (rw [hyq]; with_reducible exact H) | (have H2_ := (Option.bind_some _ _).symm.trans H; rw [hyq]; with_reducible exact H2_) | (have H2_ := (Option.bind_some _ _).symm.trans H; with_reducible exact H2_) | with_reducible exact H | (rw [hyq]; exact H) | exact H
   have Ny373 := ak hyq; clear hyq; have H' := ak H; clear H; obtain ⟨Ao6, co6, eo6⟩ := Kd.R_slice HO_0.out; subst eo6; have p5 : 0 ≤ (x5_1 : Int) := odA; have q5 : (x5_1 : Int) < ((x0_1.length : Int) : Int) := odA; obtain ⟨go5, co5, eo5, gb5, gl5, cl5, HG5⟩ := Kd.R_form HO_0.out (by omega); (first | cases eo5 | (injection eo5 with ea_ en_ ec_; (first | subst ea_ | (injection ea_ with ea_; subst ea_)); subst ec_; clear en_))
   have GB5 := ak gb5; have GG5 := ak HG5; clear gb5 gl5 HG5; have HMgo5 := ak (show (P0_ go5 ∨ w.heap.size ≤ go5) from (HO_0.out.1 _ rfl)); obtain ⟨hx5_0, hf5_0⟩ := Kd.R_celln 0 HO_0.out (x5_1 : Int) p5 q5; replace p5 := eq_true p5; replace q5 := eq_true q5; have HP7 := Kd.R_putg HO_0.out (x5_1 : Int) x1_1; go_wp2_with (first | ((with_reducible refine gate_store (t := 3) (p := 15) rfl ?_); refine store_event (t := 3) (p := 15) (v := ?vo_w8) (w1 := (wr.setCell ⟨go5, (x5_1 : Int).toNat, none⟩ (.int .i64 x1_1))) ?hg ?ho ?hn ?hr ?_; (case ho => rfl); (case hg => rfl); (case hn => rfl); (case hr => exact xq4); intro w8 hw; have hg : wr.grownBy w8 (some go5) := (by rw [hw]; exact HP7.2); have hp_ : Kd.R (Kd.int .i64) 3 w8 w0.heap.size (fun k_ => (P0_ k_ ∨ w.heap.size ≤ k_)) (.slice (some ⟨go5, 0, none⟩) x0_1.length co6) y373 := (by rw [hw, Ny373.out]; exact HP7.1); clear HP7; replace HB := ak ((by rw [hw]; exact below_set (HB.out) GB5.out : Below w0.heap.size w0 w8)); replace HK := ak (Kept.of_grown (S := (fun k_ => P0_ k_)) hg kdA (fun k_ e_ => (HO_0.out.1 k_ e_))); replace HO_0 := ak hp_; clear hg hw hp_))
   go_roundg k1
   case measure => have := HK1.out; omega
   case rel => exact ⟨(y373), (wrap64 (x1_1 + 1)), (wrap64 (x5_1 + 1)), eqA, eqA, H', ⟨xq6⟩, ⟨rA HO_0⟩, ⟨kdA⟩, ⟨belA⟩⟩

def laws_markJobS.l0 : Nat → List S104 → Int → Int → Option (Int × List S104)
 | 0, _, _, _ => none
 | k + 1, x0, x1, x5 => if x5 < (x0.length : Int) then (if 0 ≤ x5 then ((some (x0.set (x5 : Int).toNat (⟨x1, (rd_T104 x0 x5).f1, (rd_T104 x0 x5).f2, (rd_T104 x0 x5).f3, (rd_T104 x0 x5).f4⟩ : S104))).bind fun y1 => ((some (y1.set (x5 : Int).toNat (⟨(rd_T104 y1 x5).f0, wrap64 (x1 + 1), (rd_T104 y1 x5).f2, (rd_T104 y1 x5).f3, (rd_T104 y1 x5).f4⟩ : S104))).bind fun y2 => ((laws_markIntS.f k (rd_T104 y2 x5).f2 (wrap64 ((wrap64 (x1 + 1)) + 1))).bind fun bA => ((some (y2.set (x5 : Int).toNat (⟨(rd_T104 y2 x5).f0, (rd_T104 y2 x5).f1, bA.2, (rd_T104 y2 x5).f3, (rd_T104 y2 x5).f4⟩ : S104))).bind fun y3 => ((laws_markIntS.f k (rd_T104 y3 x5).f3 bA.1).bind fun bB => ((some (y3.set (x5 : Int).toNat (⟨(rd_T104 y3 x5).f0, (rd_T104 y3 x5).f1, (rd_T104 y3 x5).f2, bB.2, (rd_T104 y3 x5).f4⟩ : S104))).bind fun y4 => ((some (y4.set (x5 : Int).toNat (⟨(rd_T104 y4 x5).f0, (rd_T104 y4 x5).f1, (rd_T104 y4 x5).f2, (rd_T104 y4 x5).f3, bB.1⟩ : S104))).bind fun y5 => (laws_markJobS.l0 k y5 (wrap64 (bB.1 + 1)) (wrap64 (x5 + 1)))))))))) else (none)) else (some (x1, x0))
def laws_markJobS.f (k : Nat) (l0 : List S104) (a1 : Int) : Option (Int × List S104) := laws_markJobS.l0 k l0 a1 0
theorem laws_markJobS.mono_l : ∀ k, (∀ y0 y1 y2, LeO (laws_markJobS.l0 k y0 y1 y2) (laws_markJobS.l0 (k + 1) y0 y1 y2))
 | 0 => fun _ _ _ r h => by simp [laws_markJobS.l0] at h
 | k + 1 => by
  have ih0 := laws_markJobS.mono_l k
  · intro y0 y1 y2; unfold laws_markJobS.l0; exact (by repeat' (with_reducible first | exact ih0 _ _ _ | exact laws_markIntS.mono _ _ _ | exact LeO.refl _ | exact LeO.none _ | refine LeO.ite ?_ ?_ | refine LeO.bind ?_ (fun _ => ?_)))
theorem laws_markJobS.mono : ∀ a0 a1 k, LeO (laws_markJobS.f k a0 a1) (laws_markJobS.f (k + 1) a0 a1) := by
 intro a0 a1 k; exact laws_markJobS.mono_l k _ _ _
theorem laws_markJobS.calls (k : Nat) (P0_ : Nat → Prop) (u9000_ : Value) (l0 : List S104) (a1 : Int) (r1 : Int) (r2 : List S104) (w0 w : World) (hB : Below w0.heap.size w0 w) (ho0 : Kd.S k104a 104 w w0.heap.size P0_ u9000_ l0) (h : laws_markJobS.f k l0 a1 = some (r1, r2)) :
 Calls Try.prog 27 #[u9000_, .int .i64 a1] w fun e w' => e = .returned (.int .i64 r1) ∧ Kd.S k104a 104 w' w0.heap.size P0_ u9000_ r2 ∧ Below w0.heap.size w0 w' ∧ Kept w w' (fun k_ => P0_ k_) := by
 have HO0 := ak ho0; have HK := ak (Kept.refl w (fun k_ => P0_ k_)); have HB := ak hB; clear hB ho0; have H : (laws_markJobS.l0 k l0 a1 0) = some (r1, r2) := h; clear h; have H' := ak H; clear H; go_enter Try.func27, Try.ntmps27
 go_wp2
 go_loopg [1, 5] k (fun kq v1 v5 w' => ∃ (x0_1 : List S104) (x1_1 : Int) (x5_1 : Int), v1 = .int .i64 x1_1 ∧ v5 = .int .i64 x5_1 ∧ Aside0 (laws_markJobS.l0 kq x0_1 x1_1 x5_1 = some (r1, r2)) ∧ Aside0 (kq ≤ k) ∧ Aside0 (Kd.S k104a 104 w' w0.heap.size P0_ u9000_ x0_1) ∧ Aside0 (Kept w w' (fun k_ => P0_ k_)) ∧ Aside0 (Below w0.heap.size w0 w'))
 case atStart => exact ⟨(l0), (a1), (0), eqA, eqA, H', ⟨Nat.le_refl _⟩, ⟨sA HO0⟩, ⟨kdA⟩, ⟨belA⟩⟩
 case round =>
  clear H'; obtain ⟨x0_1, x1_1, x5_1, rfl, rfl, HA, HK1, HO_0, HK, HB⟩ := hrel
  cases gk with
  | zero => exact absurd HA.out (by simp [laws_markJobS.l0])
  | succ k1 =>
   have H := HA.out; clear HA; simp only [laws_markJobS.l0] at H
   by_cases c3 : x5_1 < (x0_1.length : Int); rotate_left
   · rw [if_neg c3] at H; have c3b0 := decide_eq_false c3; clear c3; simp only [Option.some.injEq, Prod.mk.injEq] at H; obtain ⟨rfl, rfl⟩ := H; obtain ⟨Ao15, co15, eo15⟩ := Kd.R_slice (Kd.S_R HO_0.out); subst eo15; go_wp2
     go_ret
     exact ⟨by first | rfl | (simp [errW_none, errW_some] <;> rfl), by (with_reducible repeat (first | apply Kd.S_alloc | apply Kd.S_drewN | apply Kd.S_drew)); exact HO_0.out, belA, xq18⟩
   rw [if_pos c3] at H; have c3b0 := decide_eq_true c3
   by_cases c4 : 0 ≤ x5_1; rotate_left
   · rw [if_neg c4] at H; exact absurd H (by simp)
   rw [if_pos c4] at H; have c4b0 := decide_eq_true c4; rw [Option.bind_some, Option.bind_some] at H; obtain ⟨y1, hyq⟩ : ∃ y_ : List S104, y_ = (x0_1.set (x5_1 : Int).toNat (⟨x1_1, (rd_T104 x0_1 x5_1).f1, (rd_T104 x0_1 x5_1).f2, (rd_T104 x0_1 x5_1).f3, (rd_T104 x0_1 x5_1).f4⟩ : S104)) := ⟨_, rfl⟩; rw [← hyq] at H; have Ny1 := ak hyq; clear hyq; obtain ⟨y2, hyq⟩ : ∃ y_ : List S104, y_ = (y1.set (x5_1 : Int).toNat (⟨(rd_T104 y1 x5_1).f0, wrap64 (x1_1 + 1), (rd_T104 y1 x5_1).f2, (rd_T104 y1 x5_1).f3, (rd_T104 y1 x5_1).f4⟩ : S104)) := ⟨_, rfl⟩; rw [← hyq] at H; have Ny2 := ak hyq; clear hyq; replace H := Option.bind_eq_some_iff.mp H; obtain ⟨⟨tA, lA⟩, A30, H⟩ := H; have A3 := ak A30; clear A30; rw [Option.bind_some] at H; obtain ⟨y3, hyq⟩ : ∃ y_ : List S104, y_ = (y2.set (x5_1 : Int).toNat (⟨(rd_T104 y2 x5_1).f0, (rd_T104 y2 x5_1).f1, lA, (rd_T104 y2 x5_1).f3, (rd_T104 y2 x5_1).f4⟩ : S104)) := ⟨_, rfl⟩; rw [← hyq] at H; have Ny3 := ak hyq; clear hyq; replace H := Option.bind_eq_some_iff.mp H; obtain ⟨⟨tB, lB⟩, A40, H⟩ := H; have A4 := ak A40; clear A40; rw [Option.bind_some, Option.bind_some] at H; obtain ⟨y4, hyq⟩ : ∃ y_ : List S104, y_ = (y3.set (x5_1 : Int).toNat (⟨(rd_T104 y3 x5_1).f0, (rd_T104 y3 x5_1).f1, (rd_T104 y3 x5_1).f2, lB, (rd_T104 y3 x5_1).f4⟩ : S104)) := ⟨_, rfl⟩; rw [← hyq] at H; have Ny4 := ak hyq; clear hyq; obtain ⟨y5, hyq⟩ : ∃ y_ : List S104, y_ = (y4.set (x5_1 : Int).toNat (⟨(rd_T104 y4 x5_1).f0, (rd_T104 y4 x5_1).f1, (rd_T104 y4 x5_1).f2, (rd_T104 y4 x5_1).f3, tB⟩ : S104)) := ⟨_, rfl⟩; rw [← hyq] at H; have Ny5 := ak hyq; clear hyq; have H' := ak H; clear H; have P5 := ak c4; have Q5 := ak c3; clear c3 c4; obtain ⟨Ao8, co8, eo8⟩ := Kd.R_slice (Kd.S_R HO_0.out); subst eo8; obtain ⟨go5, co5, eo5, gb5, gl5, cl5, HG5⟩ := Kd.R_form (Kd.S_R HO_0.out) (by have h1 := of_decide_eq_true c3b0; have h2 := of_decide_eq_true c4b0; omega); injection eo5 with ea_ en_ ec_
   subst ea_; clear en_ ec_; have GB5 := ak gb5; have HMgo5 := ak (show P0_ go5 from (Kd.S_R HO_0.out).1 _ rfl); clear gb5 gl5 HG5; obtain ⟨oki5, ce5, hcl5, hM5, hcc5, hfr5, hoki5, hH5⟩ := Kd.S_elem HO_0.out z104 (x5_1 : Int) P5.out Q5.out; obtain ⟨v5_2, v5_3, rfl, g5_2, g5_3⟩ := k104a_openM hM5; have HP9 := ak (Kd.S_seg0 hH5 P5.out Q5.out (seg := [.int .i64 x1_1]) (j := 0) (show 1 ≤ 5 from by decide) (x' := (⟨x1_1, (rd_T104 x0_1 x5_1).f1, (rd_T104 x0_1 x5_1).f2, (rd_T104 x0_1 x5_1).f3, (rd_T104 x0_1 x5_1).f4⟩ : S104)) (k104a_mkM _ _ _ (⟨x1_1, (rd_T104 x0_1 x5_1).f1, (rd_T104 x0_1 x5_1).f2, (rd_T104 x0_1 x5_1).f3, (rd_T104 x0_1 x5_1).f4⟩ : S104) g5_2 g5_3) (fun _ hk => hk)); have hx5_0 : wr.cell? ⟨go5, (x5_1 : Int).toNat * 5, none⟩ = some (.int .i64 ((rd_T104 x0_1 x5_1).f0)) := hcc5 0 _ rfl; have hf5_0 : wr.frozen? ⟨go5, (x5_1 : Int).toNat * 5, none⟩ = false := hfr5 0; clear hcl5 hcc5 hfr5 hM5 g5_2 g5_3 hoki5 hH5; have p5 := eq_true P5.out; have q5 := eq_true Q5.out; go_wp2_with (first | ((with_reducible refine gate_store (t := 3) (p := 16) rfl ?_); refine store_event (t := 3) (p := 16) (v := ?vo_w10) (w1 := (wr.setCell ⟨go5, (x5_1 : Int).toNat * 5, none⟩ (.int .i64 x1_1))) ?hg ?ho ?hn ?hr ?_; (case ho => rfl); (case hg => rfl); (case hn => rfl); (case hr => exact xq4); intro w10 hw; have hg : wr.grownBy w10 (some go5) := (by rw [hw]; exact HP9.out.2); have n0_ : Aside0 (Kd.S k104a 104 w10 w0.heap.size P0_ (.slice (some ⟨go5, 0, none⟩) x0_1.length co8) y1) := ak (by rw [hw, Ny1.out]; exact HP9.out.1); have n1_ := ak ((by rw [hw]; exact below_set (HB.out) GB5.out : Below w0.heap.size w0 w10)); have n2_ := ak (Kept.of_grown (S := (fun k_ => P0_ k_)) hg HK.out (fun k_ e_ => .inl xq33)); clear HO_0 HB HK HP9; have HO_0 := n0_; have HB := n1_; have HK := n2_; clear n0_ n1_ n2_; clear hg hw; obtain ⟨oki6, ce6, hcl6, hM6, hcc6, hfr6, hoki6, hH6⟩ := Kd.S_elem HO_0.out z104 (x5_1 : Int) P5.out Q5.out; obtain ⟨v6_2, v6_3, rfl, g6_2, g6_3⟩ := k104a_openM hM6; have HP10 := ak (Kd.S_seg0 hH6 P5.out Q5.out (seg := [.int .i64 (wrap64 (x1_1 + 1))]) (j := 1) (show 2 ≤ 5 from by decide) (x' := (⟨(rd_T104 y1 x5_1).f0, wrap64 (x1_1 + 1), (rd_T104 y1 x5_1).f2, (rd_T104 y1 x5_1).f3, (rd_T104 y1 x5_1).f4⟩ : S104)) (k104a_mkM _ _ _ (⟨(rd_T104 y1 x5_1).f0, wrap64 (x1_1 + 1), (rd_T104 y1 x5_1).f2, (rd_T104 y1 x5_1).f3, (rd_T104 y1 x5_1).f4⟩ : S104) g6_2 g6_3) (fun _ hk => hk)); have hx6_1 : w10.cell? ⟨go5, (x5_1 : Int).toNat * 5 + 1, none⟩ = some (.int .i64 ((rd_T104 y1 x5_1).f1)) := hcc6 1 _ rfl; have hf6_1 : w10.frozen? ⟨go5, (x5_1 : Int).toNat * 5 + 1, none⟩ = false := hfr6 1; clear hcl6 hcc6 hfr6 hM6 g6_2 g6_3 hoki6 hH6) | ((with_reducible refine gate_store (t := 3) (p := 23) rfl ?_); refine store_event (t := 3) (p := 23) (v := ?vo_w11) (w1 := (w10.setCell ⟨go5, (x5_1 : Int).toNat * 5 + 1, none⟩ (.int .i64 (wrap64 (x1_1 + 1))))) ?hg ?ho ?hn ?hr ?_; (case ho => rfl); (case hg => rfl); (case hn => rfl); (case hr => exact xq4); intro w11 hw; have hg : w10.grownBy w11 (some go5) := (by rw [hw]; exact HP10.out.2); have n0_ : Aside0 (Kd.S k104a 104 w11 w0.heap.size P0_ (.slice (some ⟨go5, 0, none⟩) x0_1.length co8) y2) := ak (by rw [hw, Ny2.out]; exact HP10.out.1); have n1_ := ak ((by rw [hw]; exact below_set (HB.out) GB5.out : Below w0.heap.size w0 w11)); have n2_ := ak (Kept.of_grown (S := (fun k_ => P0_ k_)) hg HK.out (fun k_ e_ => .inl xq33)); clear HO_0 HB HK HP10; have HO_0 := n0_; have HB := n1_; have HK := n2_; clear n0_ n1_ n2_; clear hg hw; obtain ⟨oki7, ce7, hcl7, hM7, hcc7, hfr7, hoki7, hH7⟩ := Kd.S_elem HO_0.out z104 (x5_1 : Int) P5.out Q5.out; obtain ⟨v7_2, v7_3, rfl, g7_2, g7_3⟩ := k104a_openM hM7; obtain ⟨A7, c7, rfl⟩ := Kd.R_slice g7_2; have hx7_2 : w11.cell? ⟨go5, (x5_1 : Int).toNat * 5 + 2, none⟩ = some (.slice A7 (rd_T104 y2 x5_1).f2.length c7) := hcc7 2 _ rfl; have GA7 := ak g7_2; have GC7 := ak g7_3; have OK7 := ak hoki7; have HH7 := ak hH7; clear hcl7 hcc7 hfr7 hM7 g7_2 g7_3 hoki7 hH7) | ((with_reducible refine gate_callee (f := 41) rfl ?_); refine goA (some 32) Try.func41 #[.slice A7 (rd_T104 y2 x5_1).f2.length c7, .int .i64 (wrap64 ((wrap64 (x1_1 + 1)) + 1))] rfl ?_; (with_reducible refine (laws_markIntS.calls k1 (fun k_ => some k_ = (.slice A7 (rd_T104 y2 x5_1).f2.length c7 : Value).ownBlock) _ _ _ tA lA w0 _ ?side1 ?side2 A3.out).mono ?_); (case side1 => exact xq10); (case side2 => (with_reducible repeat (first | apply Kd.R_alloc | apply Kd.R_drewN | apply Kd.R_drew)); exact Kd.R_tight rfl GA7.out); rintro e w12 ⟨rfl, hy0, hb, hkp⟩; refine ⟨_, rfl, ?_⟩; have n0_ := ak (Kd.H_back (Kd.H_kept (by (with_reducible repeat (first | apply Kd.H_alloc | apply Kd.H_drewN | apply Kd.H_drew)); exact HH7.out) hkp (fun k_ _ hn_ hs_ => hn_ (GA7.out.1 k_ hs_.symm))) (k104a_mkM _ _ oki7 (⟨(rd_T104 y2 x5_1).f0, (rd_T104 y2 x5_1).f1, lA, (rd_T104 y2 x5_1).f3, (rd_T104 y2 x5_1).f4⟩ : S104) (Kd.R_reok rfl hy0 (fun k_ e_ => GA7.out.1 k_ e_)) (Kd.R_kept (rA GC7) hkp (fun k_ hk_ hs_ => hk_.2 hs_))) (fun _ hk => hk)); rw [← Ny3.out] at n0_; have n1_ := ak hb; have n2_ := ak (Kept.then_ (S := (fun k_ => P0_ k_)) kdA hkp (fun k_ hs_ => .inl (OK7.out k_ (GA7.out.1 k_ hs_.symm)).1)); clear HO_0 HB HK HH7 GA7 GC7 OK7; have HO_0 := n0_; have HB := n1_; have HK := n2_; clear n0_ n1_ n2_ hy0 hb hkp; obtain ⟨oki8, ce8, hcl8, hM8, hcc8, hfr8, hoki8, hH8⟩ := Kd.S_elem HO_0.out z104 (x5_1 : Int) P5.out Q5.out; obtain ⟨v8_2, v8_3, rfl, g8_2, g8_3⟩ := k104a_openM hM8; obtain ⟨A8, c8, rfl⟩ := Kd.R_slice g8_3; have hx8_3 : w12.cell? ⟨go5, (x5_1 : Int).toNat * 5 + 3, none⟩ = some (.slice A8 (rd_T104 y3 x5_1).f3.length c8) := hcc8 3 _ rfl; have GA8 := ak g8_2; have GC8 := ak g8_3; have OK8 := ak hoki8; have HH8 := ak hH8; clear hcl8 hcc8 hfr8 hM8 g8_2 g8_3 hoki8 hH8) | ((with_reducible refine gate_callee (f := 41) rfl ?_); refine goA (some 39) Try.func41 #[.slice A8 (rd_T104 y3 x5_1).f3.length c8, .int .i64 tA] rfl ?_; (with_reducible refine (laws_markIntS.calls k1 (fun k_ => some k_ = (.slice A8 (rd_T104 y3 x5_1).f3.length c8 : Value).ownBlock) _ _ _ tB lB w0 _ ?side1 ?side2 A4.out).mono ?_); (case side1 => exact xq10); (case side2 => (with_reducible repeat (first | apply Kd.R_alloc | apply Kd.R_drewN | apply Kd.R_drew)); exact Kd.R_tight rfl GC8.out); rintro e w13 ⟨rfl, hy0, hb, hkp⟩; refine ⟨_, rfl, ?_⟩; have n0_ := ak (Kd.H_back (Kd.H_kept (by (with_reducible repeat (first | apply Kd.H_alloc | apply Kd.H_drewN | apply Kd.H_drew)); exact HH8.out) hkp (fun k_ _ hn_ hs_ => hn_ ((GC8.out.1 k_ hs_.symm).1))) (k104a_mkM _ _ oki8 (⟨(rd_T104 y3 x5_1).f0, (rd_T104 y3 x5_1).f1, (rd_T104 y3 x5_1).f2, lB, (rd_T104 y3 x5_1).f4⟩ : S104) (Kd.R_reok rfl (Kd.R_kept (rE (Kd.R_tight rfl GA8.out)) hkp (fun k_ e_ hs_ => (GC8.out.1 k_ hs_.symm).2 e_)) (fun k_ e_ => GA8.out.1 k_ e_)) (Kd.R_reok rfl hy0 (fun k_ e_ => GC8.out.1 k_ e_))) (fun _ hk => hk)); rw [← Ny4.out] at n0_; have n1_ := ak hb; have n2_ := ak (Kept.then_ (S := (fun k_ => P0_ k_)) kdA hkp (fun k_ hs_ => .inl (OK8.out k_ ((GC8.out.1 k_ hs_.symm).1)).1)); clear HO_0 HB HK HH8 GA8 GC8 OK8; have HO_0 := n0_; have HB := n1_; have HK := n2_; clear n0_ n1_ n2_ hy0 hb hkp; obtain ⟨oki9, ce9, hcl9, hM9, hcc9, hfr9, hoki9, hH9⟩ := Kd.S_elem HO_0.out z104 (x5_1 : Int) P5.out Q5.out; obtain ⟨v9_2, v9_3, rfl, g9_2, g9_3⟩ := k104a_openM hM9; have HP11 := ak (Kd.S_seg0 hH9 P5.out Q5.out (seg := [.int .i64 tB]) (j := 4) (show 5 ≤ 5 from by decide) (x' := (⟨(rd_T104 y4 x5_1).f0, (rd_T104 y4 x5_1).f1, (rd_T104 y4 x5_1).f2, (rd_T104 y4 x5_1).f3, tB⟩ : S104)) (k104a_mkM _ _ _ (⟨(rd_T104 y4 x5_1).f0, (rd_T104 y4 x5_1).f1, (rd_T104 y4 x5_1).f2, (rd_T104 y4 x5_1).f3, tB⟩ : S104) g9_2 g9_3) (fun _ hk => hk)); have hx9_4 : w13.cell? ⟨go5, (x5_1 : Int).toNat * 5 + 4, none⟩ = some (.int .i64 ((rd_T104 y4 x5_1).f4)) := hcc9 4 _ rfl; have hf9_4 : w13.frozen? ⟨go5, (x5_1 : Int).toNat * 5 + 4, none⟩ = false := hfr9 4; clear hcl9 hcc9 hfr9 hM9 g9_2 g9_3 hoki9 hH9) | ((with_reducible refine gate_store (t := 3) (p := 44) rfl ?_); refine store_event (t := 3) (p := 44) (v := ?vo_w14) (w1 := (w13.setCell ⟨go5, (x5_1 : Int).toNat * 5 + 4, none⟩ (.int .i64 tB))) ?hg ?ho ?hn ?hr ?_; (case ho => rfl); (case hg => rfl); (case hn => rfl); (case hr => exact xq4); intro w14 hw; have hg : w13.grownBy w14 (some go5) := (by rw [hw]; exact HP11.out.2); have n0_ : Aside0 (Kd.S k104a 104 w14 w0.heap.size P0_ (.slice (some ⟨go5, 0, none⟩) x0_1.length co8) y5) := ak (by rw [hw, Ny5.out]; exact HP11.out.1); have n1_ := ak ((by rw [hw]; exact below_set (HB.out) GB5.out : Below w0.heap.size w0 w14)); have n2_ := ak (Kept.of_grown (S := (fun k_ => P0_ k_)) hg HK.out (fun k_ e_ => .inl xq33)); clear HO_0 HB HK HP11; have HO_0 := n0_; have HB := n1_; have HK := n2_; clear n0_ n1_ n2_; clear hg hw))
   go_roundg k1
   case measure => have := HK1.out; omega
   case rel => exact ⟨y5, (wrap64 (tB + 1)), (wrap64 (x5_1 + 1)), eqA, eqA, H', ⟨xq6⟩, ⟨sA HO_0⟩, ⟨kdA⟩, ⟨belA⟩⟩

end Go.Proofs.Ytbojabmpcfclhaa.PFnExactPackJobs

-- Written by a program of this session (the print of the kit with contracts of this session's own added)
import Derived.Test.YtbojabmpcfclhaaZFPAx1
import Derived.Test.YtbojabmpcfclhaaZFPAx3
import Derived.Test.YtbojabmpcfclhaaZFPAx5
import Derived.Test.YtbojabmpcfclhaaZFPAV
import Derived.Test.YtbojabmpcfclhaaZFPAx2
namespace Go.Proofs.Ytbojabmpcfclhaa.PFnPlanAny
open Go.RowKit Go.Proofs.YtbojabmpcfclhaaW.PrintWords Go.Proofs.YtbojabmpcfclhaaW.PrintLast Go.Proofs.YtbojabmpcfclhaaW.PrintMore Go.Proofs.YtbojabmpcfclhaaW.PrintPack
attribute [local go_sem] max2_int min2_int max_two min_two max_three min_three max_four min_four   -- for this text's walks alone
set_option linter.unusedVariables false
set_option linter.unusedSimpArgs false

/-! ### spec_l03Elements: function 116 -/
def spec_l03Elements.l0 : Nat → List Int → Int → Int → Option (Bool)
 | 0, _, _, _ => none
 | k + 1, x1, x5, x6 => if x6 < (x1.length : Int) then (if 0 ≤ x6 then ((spec_l01In.f (rd x1 x6) 0 (wrap64 (x5 - 1))).bind fun t262 => (if t262 = true then (spec_l03Elements.l0 k x1 x5 (wrap64 (x6 + 1))) else (some false))) else (none)) else (some true)
def spec_l03Elements.f (k : Nat) (a0 : Int) (l1 : List Int) : Option (Bool) := (spec_Modulus.f a0).bind fun t260 => (if t260 = 0 then (some false) else (spec_l03Elements.l0 k l1 t260 0))
theorem spec_l03Elements.mono_l : ∀ k, (∀ y0 y1 y2, LeO (spec_l03Elements.l0 k y0 y1 y2) (spec_l03Elements.l0 (k + 1) y0 y1 y2))
 | 0 => fun _ _ _ r h => by simp [spec_l03Elements.l0] at h
 | k + 1 => by
  have ih0 := spec_l03Elements.mono_l k
  · intro y0 y1 y2
    unfold spec_l03Elements.l0
    repeat' first
    | (with_reducible exact ih0 _ _ _)
    | (with_reducible exact LeO.refl _)
    | (with_reducible exact LeO.none _)
    | (with_reducible refine LeO.ite ?_ ?_)
    | (with_reducible refine LeO.bind ?_ (fun _ => ?_))
    | exact ih0 _ _ _
    | exact LeO.none _
    | refine LeO.ite ?_ ?_
    | refine LeO.bind ?_ (fun _ => ?_)
theorem spec_l03Elements.mono : ∀ a0 a1 k, LeO (spec_l03Elements.f k a0 a1) (spec_l03Elements.f (k + 1) a0 a1) := by
 intro a0 a1 k; have ih0 := spec_l03Elements.mono_l k
 unfold spec_l03Elements.f
 repeat' first
  | (with_reducible exact ih0 _ _ _)
  | (with_reducible exact LeO.refl _)
  | (with_reducible exact LeO.none _)
  | (with_reducible refine LeO.ite ?_ ?_)
  | (with_reducible refine LeO.bind ?_ (fun _ => ?_))
  | exact ih0 _ _ _
  | exact LeO.none _
  | refine LeO.ite ?_ ?_
  | refine LeO.bind ?_ (fun _ => ?_)
set_option maxHeartbeats 8000000 in
set_option maxRecDepth 100000 in
theorem spec_l03Elements.calls (k : Nat) (a0 : Int) (A1 : Option Addr) (c1 : Nat) (l1 : List Int) (r : Bool) (w : World) (hr1 : Kd.C (Kd.int .i64) w A1 l1.length l1) (hc1 : l1.length ≤ c1) (h : spec_l03Elements.f k a0 l1 = some r) :
 Calls Try.prog 116 #[.int .i64 a0, .slice A1 l1.length c1] w fun e w' => e = .returned (.bool r) ∧ Drawn0 w w' := by
 have HR1 := Aside0.mk hr1; have HC1 := Aside0.mk hc1; clear hr1 hc1; have H : ((spec_Modulus.f a0).bind fun t260 => (if t260 = 0 then (some false) else (spec_l03Elements.l0 k l1 t260 0))) = some r := h; clear h; replace H := Option.bind_eq_some_iff.mp H; obtain ⟨t260, A30, H⟩ := H; replace H : (if t260 = 0 then (some false) else (spec_l03Elements.l0 k l1 t260 0)) = some r := H
 have A3 := Aside0.mk A30; clear A30
 by_cases c4 : t260 = 0
 · rw [if_pos c4] at H; have c4b0 : (t260 == 0) = true := beq_iff_eq.mpr c4; have c4b1 : (t260 != 0) = false := bne_eq_false_iff_eq.mpr c4; clear c4; obtain rfl := Option.some.inj H; go_enter Try.func116, Try.ntmps116
   go_wp2_with (first | ((with_reducible refine gate_callee (f := 117) rfl ?_); refine goesL_ (some 8) rfl rfl Try.func117 (by kernel_rfl) rfl #[.int .i64 a0] rfl xq1 ?_; (with_reducible refine (spec_Modulus.calls a0 t260 _ A3.out).mono ?_); rintro e w' ⟨rfl, ⟨nd, rfl⟩⟩; refine ⟨_, rfl, ?_⟩))
   go_ret
   exact ⟨xq7, xq3⟩
 · rw [if_neg c4] at H; have c4b0 : (t260 == 0) = false := beq_eq_false_iff_ne.mpr c4; have c4b1 : (t260 != 0) = true := bne_iff_ne.mpr c4; have H' := Aside0.mk H; clear H; go_enter Try.func116, Try.ntmps116
   go_wp2_with (first | ((with_reducible refine gate_callee (f := 117) rfl ?_); refine goesL_ (some 8) rfl rfl Try.func117 (by kernel_rfl) rfl #[.int .i64 a0] rfl xq1 ?_; (with_reducible refine (spec_Modulus.calls a0 t260 _ A3.out).mono ?_); rintro e w' ⟨rfl, ⟨nd, rfl⟩⟩; refine ⟨_, rfl, ?_⟩))
   go_loopg [6] k (fun kq v6 w' => ∃ (x6_1 : Int), v6 = .int .i64 x6_1 ∧ Aside0 (spec_l03Elements.l0 kq l1 t260 x6_1 = some r) ∧ Aside0 (kq ≤ k) ∧ Drawn0 w w')
   case atStart => exact ⟨(0), eqA, H', ⟨Nat.le_refl _⟩, xq3⟩
   case round =>
    clear H'; obtain ⟨x6_1, rfl, HA, HK1, ⟨m1, rfl⟩⟩ := hrel
    cases gk with
    | zero => exact absurd HA.out (by simp [spec_l03Elements.l0])
    | succ k1 =>
     have H := HA.out; clear HA; simp only [spec_l03Elements.l0] at H
     by_cases c5 : x6_1 < (l1.length : Int)
     · rw [if_pos c5] at H; have c5b0 := decide_eq_true c5; clear c5
       by_cases c6 : 0 ≤ x6_1
       · rw [if_pos c6] at H; have c6b0 := decide_eq_true c6; clear c6; replace H := Option.bind_eq_some_iff.mp H; obtain ⟨t262, A70, H⟩ := H; replace H : (if t262 = true then (spec_l03Elements.l0 k1 l1 t260 (wrap64 (x6_1 + 1))) else (some false)) = some r := H
         have A7 := Aside0.mk A70; clear A70
         by_cases c8 : t262 = true
         · subst c8; have H1 : (spec_l03Elements.l0 k1 l1 t260 (wrap64 (x6_1 + 1))) = some r := by rw [if_pos rfl] at H; exact H
           clear H; have H := H1; clear H1; have H' := Aside0.mk H; clear H; have p261 : 0 ≤ (x6_1 : Int) := odA; have q261 : x6_1 < (l1.length : Int) := odA; obtain ⟨ad261, e261, hx261_0⟩ := Kd.at_int HR1.out x6_1 p261 q261
           cases e261
           replace p261 := eq_true p261; replace q261 := eq_true q261; go_wp2_with (first | ((with_reducible refine gate_callee (f := 60) rfl ?_); refine goesL_ (some 23) rfl rfl Try.func60 (by kernel_rfl) rfl #[.int .i64 (rd l1 x6_1), .int .i64 0, .int .i64 (wrap64 (t260 - 1))] rfl xq1 ?_; (with_reducible refine (spec_l01In.calls (rd l1 x6_1) 0 (wrap64 (t260 - 1)) true _ A7.out).mono ?_); rintro e w' ⟨rfl, ⟨nd, rfl⟩⟩; refine ⟨_, rfl, ?_⟩))
           go_roundg k1
           case measure => have := HK1.out; omega
           case rel => exact ⟨(wrap64 (x6_1 + 1)), eqA, H', ⟨xq12⟩, xq3⟩
         · replace c8 := Bool.eq_false_iff.mpr c8; subst c8; have H1 : (some false) = some r := by rw [if_neg (show ¬ (false = true) by decide)] at H; exact H
           clear H; have H := H1; clear H1; obtain rfl := Option.some.inj H; have p261 : 0 ≤ (x6_1 : Int) := odA; have q261 : x6_1 < (l1.length : Int) := odA; obtain ⟨ad261, e261, hx261_0⟩ := Kd.at_int HR1.out x6_1 p261 q261
           cases e261
           replace p261 := eq_true p261; replace q261 := eq_true q261; go_wp2_with (first | ((with_reducible refine gate_callee (f := 60) rfl ?_); refine goesL_ (some 23) rfl rfl Try.func60 (by kernel_rfl) rfl #[.int .i64 (rd l1 x6_1), .int .i64 0, .int .i64 (wrap64 (t260 - 1))] rfl xq1 ?_; (with_reducible refine (spec_l01In.calls (rd l1 x6_1) 0 (wrap64 (t260 - 1)) false _ A7.out).mono ?_); rintro e w' ⟨rfl, ⟨nd, rfl⟩⟩; refine ⟨_, rfl, ?_⟩))
           go_ret
           exact ⟨xq7, xq3⟩
       · rw [if_neg c6] at H; exact absurd H (by simp)
     · rw [if_neg c5] at H; have c5b0 := decide_eq_false c5; clear c5; obtain rfl := Option.some.inj H; go_wp2
       go_ret
       exact ⟨xq7, xq3⟩

/-! ### spec_VectorOk: function 63 -/
def spec_VectorOk.f (k : Nat) (a0 : Int) (l1 : List Int) : Option (Bool) := (spec_LogOf.f k (l1.length : Int)).bind fun t263 => (if t263 ≥ 0 then ((spec_TwoPower.f k a0).bind fun t264 => (if t263 ≤ t264 then ((spec_l03Elements.f k a0 l1).bind fun t265 => (some t265)) else (some false))) else (some false))
theorem spec_VectorOk.mono : ∀ a0 a1 k, LeO (spec_VectorOk.f k a0 a1) (spec_VectorOk.f (k + 1) a0 a1) := by
 intro a0 a1 k
 unfold spec_VectorOk.f
 repeat' first
  | (with_reducible exact spec_LogOf.mono _ _)
  | (with_reducible exact spec_TwoPower.mono _ _)
  | (with_reducible exact spec_l03Elements.mono _ _ _)
  | (with_reducible exact LeO.refl _)
  | (with_reducible exact LeO.none _)
  | (with_reducible refine LeO.ite ?_ ?_)
  | (with_reducible refine LeO.bind ?_ (fun _ => ?_))
  | exact spec_LogOf.mono _ _
  | exact spec_TwoPower.mono _ _
  | exact spec_l03Elements.mono _ _ _
  | exact LeO.none _
  | refine LeO.ite ?_ ?_
  | refine LeO.bind ?_ (fun _ => ?_)
set_option maxHeartbeats 8000000 in
set_option maxRecDepth 100000 in
theorem spec_VectorOk.calls (k : Nat) (a0 : Int) (A1 : Option Addr) (c1 : Nat) (l1 : List Int) (r : Bool) (w : World) (hr1 : Kd.C (Kd.int .i64) w A1 l1.length l1) (hc1 : l1.length ≤ c1) (h : spec_VectorOk.f k a0 l1 = some r) :
 Calls Try.prog 63 #[.int .i64 a0, .slice A1 l1.length c1] w fun e w' => e = .returned (.bool r) ∧ Drawn0 w w' := by
 have HR1 := Aside0.mk hr1; have HC1 := Aside0.mk hc1; clear hr1 hc1; have H : ((spec_LogOf.f k (l1.length : Int)).bind fun t263 => (if t263 ≥ 0 then ((spec_TwoPower.f k a0).bind fun t264 => (if t263 ≤ t264 then ((spec_l03Elements.f k a0 l1).bind fun t265 => (some t265)) else (some false))) else (some false))) = some r := h; clear h; replace H := Option.bind_eq_some_iff.mp H; obtain ⟨t263, A30, H⟩ := H; replace H : (if t263 ≥ 0 then ((spec_TwoPower.f k a0).bind fun t264 => (if t263 ≤ t264 then ((spec_l03Elements.f k a0 l1).bind fun t265 => (some t265)) else (some false))) else (some false)) = some r := H
 have A3 := Aside0.mk A30; clear A30
 by_cases c4 : t263 ≥ 0
 · rw [if_pos c4] at H; have c4b0 := decide_eq_true c4; clear c4; replace H := Option.bind_eq_some_iff.mp H; obtain ⟨t264, A50, H⟩ := H; replace H : (if t263 ≤ t264 then ((spec_l03Elements.f k a0 l1).bind fun t265 => (some t265)) else (some false)) = some r := H
   have A5 := Aside0.mk A50; clear A50
   by_cases c6 : t263 ≤ t264
   · rw [if_pos c6] at H; have c6b0 := decide_eq_true c6; clear c6; replace H := Option.bind_eq_some_iff.mp H; obtain ⟨t265, A70, H⟩ := H; replace H : (some t265) = some r := H
     have A7 := Aside0.mk A70; clear A70; obtain rfl := Option.some.inj H; go_enter Try.func63, Try.ntmps63
     go_wp2_with (first | ((with_reducible refine gate_callee (f := 66) rfl ?_); refine goesL_ (some 8) rfl rfl Try.func66 (by kernel_rfl) rfl #[.int .i64 (l1.length : Int)] rfl xq1 ?_; (with_reducible refine (spec_LogOf.calls k (l1.length : Int) t263 _ A3.out).mono ?_); rintro e w' ⟨rfl, ⟨nd, rfl⟩⟩; refine ⟨_, rfl, ?_⟩) | (go_at_call 112; (with_reducible refine (spec_TwoPower.calls k a0 t264 _ A5.out).mono ?_); rintro e w' ⟨rfl, ⟨nd, rfl⟩⟩) | (go_at_call 116; (with_reducible refine (spec_l03Elements.calls k a0 _ _ l1 t265 _ ?side1 ?side2 A7.out).mono ?_); (case side1 => exact cA HR1.out); (case side2 => exact HC1.out); rintro e w' ⟨rfl, ⟨nd, rfl⟩⟩))
     go_ret
     exact ⟨xq7, xq3⟩
   · rw [if_neg c6] at H; have c6b0 := decide_eq_false c6; clear c6; obtain rfl := Option.some.inj H; go_enter Try.func63, Try.ntmps63
     go_wp2_with (first | ((with_reducible refine gate_callee (f := 66) rfl ?_); refine goesL_ (some 8) rfl rfl Try.func66 (by kernel_rfl) rfl #[.int .i64 (l1.length : Int)] rfl xq1 ?_; (with_reducible refine (spec_LogOf.calls k (l1.length : Int) t263 _ A3.out).mono ?_); rintro e w' ⟨rfl, ⟨nd, rfl⟩⟩; refine ⟨_, rfl, ?_⟩) | (go_at_call 112; (with_reducible refine (spec_TwoPower.calls k a0 t264 _ A5.out).mono ?_); rintro e w' ⟨rfl, ⟨nd, rfl⟩⟩))
     go_ret
     exact ⟨xq7, xq3⟩
 · rw [if_neg c4] at H; have c4b0 := decide_eq_false c4; clear c4; obtain rfl := Option.some.inj H; go_enter Try.func63, Try.ntmps63
   go_wp2_with (first | ((with_reducible refine gate_callee (f := 66) rfl ?_); refine goesL_ (some 8) rfl rfl Try.func66 (by kernel_rfl) rfl #[.int .i64 (l1.length : Int)] rfl xq1 ?_; (with_reducible refine (spec_LogOf.calls k (l1.length : Int) t263 _ A3.out).mono ?_); rintro e w' ⟨rfl, ⟨nd, rfl⟩⟩; refine ⟨_, rfl, ?_⟩))
   go_ret
   exact ⟨xq7, xq3⟩

/-! ### spec_l04Sum: function 64 -/
mutual
def spec_l04Sum.l0 : Nat → List Int → Int → Int → Int → List Int → Int → Int → Option (List Int)
 | 0, _, _, _, _, _, _, _ => none
 | k + 1, x1, x2, x7, x8, x9, x10, x11 => if x11 < x8 then (if x9.length < 17592186044416 then (if x7 = 0 then (none) else (spec_l04Sum.l0 k x1 x2 x7 x8 (x9 ++ [x10]) (Int.tmod (wrap64 (x10 * x2)) x7) (wrap64 (x11 + 1)))) else (none)) else (spec_l04Sum.l1 k x1 x7 x8 x9 (([] : List Int)) 0)
def spec_l04Sum.l1 : Nat → List Int → Int → Int → List Int → List Int → Int → Option (List Int)
 | 0, _, _, _, _, _, _ => none
 | k + 1, x1, x7, x8, x9, x12, x13 => if x13 < x8 then (spec_l04Sum.l2 k x1 x7 x8 x9 x12 x13 0 0) else (some x12)
def spec_l04Sum.l2 : Nat → List Int → Int → Int → List Int → List Int → Int → Int → Int → Option (List Int)
 | 0, _, _, _, _, _, _, _, _ => none
 | k + 1, x1, x7, x8, x9, x12, x13, x14, x15 => if x15 < x8 then (if 0 ≤ x15 then (if x15 < (x1.length : Int) then (if x8 = 0 then (none) else (if 0 ≤ (Int.tmod (wrap64 (x13 * x15)) x8) then (if (Int.tmod (wrap64 (x13 * x15)) x8) < (x9.length : Int) then (if x7 = 0 then (none) else (spec_l04Sum.l2 k x1 x7 x8 x9 x12 x13 (Int.tmod (wrap64 (x14 + (wrap64 ((rd x1 x15) * (rd x9 (Int.tmod (wrap64 (x13 * x15)) x8)))))) x7) (wrap64 (x15 + 1)))) else (none)) else (none))) else (none)) else (none)) else (if x12.length < 17592186044416 then (spec_l04Sum.l1 k x1 x7 x8 x9 (x12 ++ [x14]) (wrap64 (x13 + 1))) else (none))
end
def spec_l04Sum.f (k : Nat) (a0 : Int) (l1 : List Int) (a2 : Int) : Option (List Int) := (spec_Modulus.f a0).bind fun t266 => (spec_l04Sum.l0 k l1 a2 t266 (l1.length : Int) (([] : List Int)) 1 0)
theorem spec_l04Sum.mono_l : ∀ k, (∀ y0 y1 y2 y3 y4 y5 y6, LeO (spec_l04Sum.l0 k y0 y1 y2 y3 y4 y5 y6) (spec_l04Sum.l0 (k + 1) y0 y1 y2 y3 y4 y5 y6)) ∧ (∀ y0 y1 y2 y3 y4 y5, LeO (spec_l04Sum.l1 k y0 y1 y2 y3 y4 y5) (spec_l04Sum.l1 (k + 1) y0 y1 y2 y3 y4 y5)) ∧ (∀ y0 y1 y2 y3 y4 y5 y6 y7, LeO (spec_l04Sum.l2 k y0 y1 y2 y3 y4 y5 y6 y7) (spec_l04Sum.l2 (k + 1) y0 y1 y2 y3 y4 y5 y6 y7))
 | 0 => ⟨fun _ _ _ _ _ _ _ r h => by simp [spec_l04Sum.l0] at h, fun _ _ _ _ _ _ r h => by simp [spec_l04Sum.l1] at h, fun _ _ _ _ _ _ _ _ r h => by simp [spec_l04Sum.l2] at h⟩
 | k + 1 => by
  obtain ⟨ih0, ih1, ih2⟩ := spec_l04Sum.mono_l k; refine ⟨?_, ?_, ?_⟩
  · intro y0 y1 y2 y3 y4 y5 y6
    unfold spec_l04Sum.l0
    repeat' first
    | (with_reducible exact ih0 _ _ _ _ _ _ _)
    | (with_reducible exact ih1 _ _ _ _ _ _)
    | (with_reducible exact ih2 _ _ _ _ _ _ _ _)
    | (with_reducible exact LeO.refl _)
    | (with_reducible exact LeO.none _)
    | (with_reducible refine LeO.ite ?_ ?_)
    | (with_reducible refine LeO.bind ?_ (fun _ => ?_))
    | exact ih0 _ _ _ _ _ _ _
    | exact ih1 _ _ _ _ _ _
    | exact ih2 _ _ _ _ _ _ _ _
    | exact LeO.none _
    | refine LeO.ite ?_ ?_
    | refine LeO.bind ?_ (fun _ => ?_)
  · intro y0 y1 y2 y3 y4 y5
    unfold spec_l04Sum.l1
    repeat' first
    | (with_reducible exact ih0 _ _ _ _ _ _ _)
    | (with_reducible exact ih1 _ _ _ _ _ _)
    | (with_reducible exact ih2 _ _ _ _ _ _ _ _)
    | (with_reducible exact LeO.refl _)
    | (with_reducible exact LeO.none _)
    | (with_reducible refine LeO.ite ?_ ?_)
    | (with_reducible refine LeO.bind ?_ (fun _ => ?_))
    | exact ih0 _ _ _ _ _ _ _
    | exact ih1 _ _ _ _ _ _
    | exact ih2 _ _ _ _ _ _ _ _
    | exact LeO.none _
    | refine LeO.ite ?_ ?_
    | refine LeO.bind ?_ (fun _ => ?_)
  · intro y0 y1 y2 y3 y4 y5 y6 y7
    unfold spec_l04Sum.l2
    repeat' first
    | (with_reducible exact ih0 _ _ _ _ _ _ _)
    | (with_reducible exact ih1 _ _ _ _ _ _)
    | (with_reducible exact ih2 _ _ _ _ _ _ _ _)
    | (with_reducible exact LeO.refl _)
    | (with_reducible exact LeO.none _)
    | (with_reducible refine LeO.ite ?_ ?_)
    | (with_reducible refine LeO.bind ?_ (fun _ => ?_))
    | exact ih0 _ _ _ _ _ _ _
    | exact ih1 _ _ _ _ _ _
    | exact ih2 _ _ _ _ _ _ _ _
    | exact LeO.none _
    | refine LeO.ite ?_ ?_
    | refine LeO.bind ?_ (fun _ => ?_)
theorem spec_l04Sum.mono : ∀ a0 a1 a2 k, LeO (spec_l04Sum.f k a0 a1 a2) (spec_l04Sum.f (k + 1) a0 a1 a2) := by
 intro a0 a1 a2 k; obtain ⟨ih0, ih1, ih2⟩ := spec_l04Sum.mono_l k
 unfold spec_l04Sum.f
 repeat' first
  | (with_reducible exact ih0 _ _ _ _ _ _ _)
  | (with_reducible exact ih1 _ _ _ _ _ _)
  | (with_reducible exact ih2 _ _ _ _ _ _ _ _)
  | (with_reducible exact LeO.refl _)
  | (with_reducible exact LeO.none _)
  | (with_reducible refine LeO.ite ?_ ?_)
  | (with_reducible refine LeO.bind ?_ (fun _ => ?_))
  | exact ih0 _ _ _ _ _ _ _
  | exact ih1 _ _ _ _ _ _
  | exact ih2 _ _ _ _ _ _ _ _
  | exact LeO.none _
  | refine LeO.ite ?_ ?_
  | refine LeO.bind ?_ (fun _ => ?_)
set_option maxHeartbeats 8000000 in
set_option maxRecDepth 100000 in
theorem spec_l04Sum.calls (k : Nat) (a0 : Int) (A1 : Option Addr) (c1 : Nat) (l1 : List Int) (a2 : Int) (r : List Int) (w : World) (hr1 : Kd.C (Kd.int .i64) w A1 l1.length l1) (hc1 : l1.length ≤ c1) (h : spec_l04Sum.f k a0 l1 a2 = some r) :
 Calls Try.prog 64 #[.int .i64 a0, .slice A1 l1.length c1, .int .i64 a2] w fun e w' => ∃ v0_ : Value, e = .returned (v0_) ∧ Kd.R (Kd.int .i64) 3 w' w.heap.size (fun _ => True) v0_ r ∧ Below w.heap.size w w' := by
 have HR1 := Aside0.mk hr1; have HC1 := Aside0.mk hc1; clear hr1 hc1; have HB := Aside0.mk (Below.refl w.heap.size w); have H : ((spec_Modulus.f a0).bind fun t266 => (spec_l04Sum.l0 k l1 a2 t266 (l1.length : Int) (([] : List Int)) 1 0)) = some r := h; clear h; replace H := Option.bind_eq_some_iff.mp H; obtain ⟨t266, A40, H⟩ := H; replace H : (spec_l04Sum.l0 k l1 a2 t266 (l1.length : Int) (([] : List Int)) 1 0) = some r := H
 have A4 := Aside0.mk A40; clear A40; obtain ⟨y267, hy267⟩ : ∃ y_ : List Int, y_ = (([] : List Int)) := ⟨_, rfl⟩; replace H : (spec_l04Sum.l0 k l1 a2 t266 (l1.length : Int) y267 1 0) = some r := by first | (rw [hy267]; with_reducible exact H) | (have H2_ := (Option.bind_some _ _).symm.trans H; rw [hy267]; with_reducible exact H2_) | (have H2_ := (Option.bind_some _ _).symm.trans H; with_reducible exact H2_) | with_reducible exact H | (rw [hy267]; exact H) | exact H
 have Ny267 := Aside0.mk hy267; clear hy267; have H' := Aside0.mk H; clear H; go_enter Try.func64, Try.ntmps64
 go_wp2_with (first | (go_at_call 117; (with_reducible refine (spec_Modulus.calls a0 t266 _ A4.out).mono ?_); rintro e w' ⟨rfl, ⟨nd, rfl⟩⟩; (try first | exact ⟨rfl, _, World.drewN_drewN _ _ _⟩ | exact ⟨rfl, _, Eq.trans (World.drewN_drewN _ _ _) (congrArg (World.drewN _) (Nat.add_assoc _ _ _))⟩)) | ((with_reducible refine gate_dst (N := 20) rfl ?_); refine Kd.R_lit (Kd.int .i64) _ 3 ?hg (N := 20) ?hd (xs := ([] : List Int)) (inner := []) (ok := fun _ => True) (okp := fun _ => True) ?hr ?hp (fun _ hk => hk) trivial (Below.refl _ _) (Nat.le_refl _) (by simp) ?_; (case hd => rfl); (case hg => rfl); (case hr => exact xq10); (case hp => exact (Reps.none _ _)); intro v268 w5 ho6 hb hg_ hnew_; clear hg_ hnew_; (first | rw [← Ny267.out] at ho6 | (simp only [Int.reduceToNat] at ho6; rw [← Ny267.out] at ho6)); have HO269 := rL ho6; replace HB := bS hb; clear hb ho6))
 repeat (go_quiet (first | (go_at_call 117; (with_reducible refine (spec_Modulus.calls a0 t266 _ A4.out).mono ?_); rintro e w' ⟨rfl, ⟨nd, rfl⟩⟩; (try first | exact ⟨rfl, _, World.drewN_drewN _ _ _⟩ | exact ⟨rfl, _, Eq.trans (World.drewN_drewN _ _ _) (congrArg (World.drewN _) (Nat.add_assoc _ _ _))⟩)) | ((with_reducible refine gate_dst (N := 20) rfl ?_); refine Kd.R_lit (Kd.int .i64) _ 3 ?hg (N := 20) ?hd (xs := ([] : List Int)) (inner := []) (ok := fun _ => True) (okp := fun _ => True) ?hr ?hp (fun _ hk => hk) trivial (Below.refl _ _) (Nat.le_refl _) (by simp) ?_; (case hd => rfl); (case hg => rfl); (case hr => exact xq10); (case hp => exact (Reps.none _ _)); intro v268 w5 ho6 hb hg_ hnew_; clear hg_ hnew_; (first | rw [← Ny267.out] at ho6 | (simp only [Int.reduceToNat] at ho6; rw [← Ny267.out] at ho6)); have HO269 := rL ho6; replace HB := bS hb; clear hb ho6)); try go_wp2_with (first | (go_at_call 117; (with_reducible refine (spec_Modulus.calls a0 t266 _ A4.out).mono ?_); rintro e w' ⟨rfl, ⟨nd, rfl⟩⟩; (try first | exact ⟨rfl, _, World.drewN_drewN _ _ _⟩ | exact ⟨rfl, _, Eq.trans (World.drewN_drewN _ _ _) (congrArg (World.drewN _) (Nat.add_assoc _ _ _))⟩)) | ((with_reducible refine gate_dst (N := 20) rfl ?_); refine Kd.R_lit (Kd.int .i64) _ 3 ?hg (N := 20) ?hd (xs := ([] : List Int)) (inner := []) (ok := fun _ => True) (okp := fun _ => True) ?hr ?hp (fun _ hk => hk) trivial (Below.refl _ _) (Nat.le_refl _) (by simp) ?_; (case hd => rfl); (case hg => rfl); (case hr => exact xq10); (case hp => exact (Reps.none _ _)); intro v268 w5 ho6 hb hg_ hnew_; clear hg_ hnew_; (first | rw [← Ny267.out] at ho6 | (simp only [Int.reduceToNat] at ho6; rw [← Ny267.out] at ho6)); have HO269 := rL ho6; replace HB := bS hb; clear hb ho6)))
 go_loopg [9, 10, 11] k (fun kq v9 v10 v11 w' => ∃ (x9_1 : List Int) (x10_1 : Int) (x11_1 : Int), v10 = .int .i64 x10_1 ∧ v11 = .int .i64 x11_1 ∧ Aside0 (spec_l04Sum.l0 kq l1 a2 t266 (l1.length : Int) x9_1 x10_1 x11_1 = some r) ∧ Aside0 (kq ≤ k) ∧ Aside0 (Kd.R (Kd.int .i64) 3 w' w.heap.size (fun _ => True) v9 x9_1) ∧ Aside0 (Below w.heap.size w w'))
 case atStart => exact ⟨(y267), (1), (0), eqA, eqA, H', ⟨Nat.le_refl _⟩, ⟨rA HO269⟩, ⟨belA⟩⟩
 case round =>
  clear H'; obtain ⟨x9_1, x10_1, x11_1, rfl, rfl, HA, HK1, HO_9, HB⟩ := hrel
  cases gk with
  | zero => exact absurd HA.out (by simp [spec_l04Sum.l0])
  | succ k1 =>
   have H := HA.out; clear HA; simp only [spec_l04Sum.l0] at H
   by_cases c7 : x11_1 < (l1.length : Int)
   · rw [if_pos c7] at H; have c7b0 := decide_eq_true c7; clear c7
     by_cases c8 : x9_1.length < 17592186044416
     · rw [if_pos c8] at H; have LMc8 := Aside0.mk c8; clear c8; obtain ⟨y270, hy270⟩ : ∃ y_ : List Int, y_ = (x9_1 ++ [x10_1]) := ⟨_, rfl⟩; replace H : (if t266 = 0 then (none) else (spec_l04Sum.l0 k1 l1 a2 t266 (l1.length : Int) y270 (Int.tmod (wrap64 (x10_1 * a2)) t266) (wrap64 (x11_1 + 1)))) = some r := by first | (rw [hy270]; with_reducible exact H) | (have H2_ := (Option.bind_some _ _).symm.trans H; rw [hy270]; with_reducible exact H2_) | (have H2_ := (Option.bind_some _ _).symm.trans H; with_reducible exact H2_) | with_reducible exact H | (rw [hy270]; exact H) | exact H
       have Ny270 := Aside0.mk hy270; clear hy270
       by_cases c9 : t266 = 0
       · rw [if_pos c9] at H; exact absurd H (by simp)
       · rw [if_neg c9] at H; have c9b0 : (t266 == 0) = false := beq_eq_false_iff_ne.mpr c9; have c9b1 : (t266 != 0) = true := bne_iff_ne.mpr c9; have H' := Aside0.mk H; clear H; go_wp2_with (first | ((with_reducible refine gate_builtin (b := .append) (xs := #[.tmp 26, .tmp 28]) rfl ?_); at_builtin; refine Kd.R_append (Kd.int .i64) (w0 := w) w.heap.size rfl (.tmp 26) (.tmp 28) 27 3 (.int .i64 0) 8 rfl Try.underlying27 info3 rfl (by decide) (by omega) u9 x9_1 x10_1 [.int .i64 x10_1] (fun _ => True) (fun _ => False) rfl rfl ?aP (fun _ hk => hk.elim) ?aF ?aO ?aB ?aS ?aL ?_; (case aP => exact rfl); (case aB => exact belA); (case aF => exact (fun _ _ => trivial)); (case aO => exact (rA HO_9)); (case aS => exact (below_size belA)); (case aL => have := LMc8.out; omega); intro v271 w10 ho hb hg hat; rw [← Ny270.out] at ho; have HO272 := Aside0.mk ho; replace HB := Aside0.mk hb; clear HO_9; clear ho hb hg hat))
         repeat (go_quiet (first | ((with_reducible refine gate_builtin (b := .append) (xs := #[.tmp 26, .tmp 28]) rfl ?_); at_builtin; refine Kd.R_append (Kd.int .i64) (w0 := w) w.heap.size rfl (.tmp 26) (.tmp 28) 27 3 (.int .i64 0) 8 rfl Try.underlying27 info3 rfl (by decide) (by omega) u9 x9_1 x10_1 [.int .i64 x10_1] (fun _ => True) (fun _ => False) rfl rfl ?aP (fun _ hk => hk.elim) ?aF ?aO ?aB ?aS ?aL ?_; (case aP => exact rfl); (case aB => exact belA); (case aF => exact (fun _ _ => trivial)); (case aO => exact (rA HO_9)); (case aS => exact (below_size belA)); (case aL => have := LMc8.out; omega); intro v271 w10 ho hb hg hat; rw [← Ny270.out] at ho; have HO272 := Aside0.mk ho; replace HB := Aside0.mk hb; clear HO_9; clear ho hb hg hat)); try go_wp2_with (first | ((with_reducible refine gate_builtin (b := .append) (xs := #[.tmp 26, .tmp 28]) rfl ?_); at_builtin; refine Kd.R_append (Kd.int .i64) (w0 := w) w.heap.size rfl (.tmp 26) (.tmp 28) 27 3 (.int .i64 0) 8 rfl Try.underlying27 info3 rfl (by decide) (by omega) u9 x9_1 x10_1 [.int .i64 x10_1] (fun _ => True) (fun _ => False) rfl rfl ?aP (fun _ hk => hk.elim) ?aF ?aO ?aB ?aS ?aL ?_; (case aP => exact rfl); (case aB => exact belA); (case aF => exact (fun _ _ => trivial)); (case aO => exact (rA HO_9)); (case aS => exact (below_size belA)); (case aL => have := LMc8.out; omega); intro v271 w10 ho hb hg hat; rw [← Ny270.out] at ho; have HO272 := Aside0.mk ho; replace HB := Aside0.mk hb; clear HO_9; clear ho hb hg hat)))
         go_roundg k1
         case measure => have := HK1.out; omega
         case rel => exact ⟨(y270), (Int.tmod (wrap64 (x10_1 * a2)) t266), (wrap64 (x11_1 + 1)), eqA, eqA, H', ⟨xq12⟩, ⟨rA HO272⟩, ⟨belA⟩⟩
     · rw [if_neg c8] at H; exact absurd H (by simp)
   · rw [if_neg c7] at H; have c7b0 := decide_eq_false c7; clear c7; obtain ⟨y273, hy273⟩ : ∃ y_ : List Int, y_ = (([] : List Int)) := ⟨_, rfl⟩; replace H : (spec_l04Sum.l1 k1 l1 t266 (l1.length : Int) x9_1 y273 0) = some r := by first | (rw [hy273]; with_reducible exact H) | (have H2_ := (Option.bind_some _ _).symm.trans H; rw [hy273]; with_reducible exact H2_) | (have H2_ := (Option.bind_some _ _).symm.trans H; with_reducible exact H2_) | with_reducible exact H | (rw [hy273]; exact H) | exact H
     have Ny273 := Aside0.mk hy273; clear hy273; have H' := Aside0.mk H; clear H; go_wp2_with (first | ((with_reducible refine gate_dst (N := 35) rfl ?_); refine Kd.R_lit (Kd.int .i64) _ 3 ?hg (N := 35) ?hd (xs := ([] : List Int)) (inner := []) (ok := fun _ => True) (okp := fun _ => True) ?hr ?hp (fun _ hk => hk) trivial (Below.refl _ _) (Nat.le_refl _) (by simp) ?_; (case hd => rfl); (case hg => rfl); (case hr => exact xq10); (case hp => exact (Reps.none _ _)); intro v274 w11 ho12 hb hg_ hnew_; clear hg_ hnew_; (first | rw [← Ny273.out] at ho12 | (simp only [Int.reduceToNat] at ho12; rw [← Ny273.out] at ho12)); have HO275 := rL (Kd.R_new' ho12 (rT HO_9)); replace HO_9 := rD HO_9 (Kd.R_base ho12) hb; replace HB := bS hb; clear hb ho12))
     repeat (go_quiet (first | ((with_reducible refine gate_dst (N := 35) rfl ?_); refine Kd.R_lit (Kd.int .i64) _ 3 ?hg (N := 35) ?hd (xs := ([] : List Int)) (inner := []) (ok := fun _ => True) (okp := fun _ => True) ?hr ?hp (fun _ hk => hk) trivial (Below.refl _ _) (Nat.le_refl _) (by simp) ?_; (case hd => rfl); (case hg => rfl); (case hr => exact xq10); (case hp => exact (Reps.none _ _)); intro v274 w11 ho12 hb hg_ hnew_; clear hg_ hnew_; (first | rw [← Ny273.out] at ho12 | (simp only [Int.reduceToNat] at ho12; rw [← Ny273.out] at ho12)); have HO275 := rL (Kd.R_new' ho12 (rT HO_9)); replace HO_9 := rD HO_9 (Kd.R_base ho12) hb; replace HB := bS hb; clear hb ho12)); try go_wp2_with (first | ((with_reducible refine gate_dst (N := 35) rfl ?_); refine Kd.R_lit (Kd.int .i64) _ 3 ?hg (N := 35) ?hd (xs := ([] : List Int)) (inner := []) (ok := fun _ => True) (okp := fun _ => True) ?hr ?hp (fun _ hk => hk) trivial (Below.refl _ _) (Nat.le_refl _) (by simp) ?_; (case hd => rfl); (case hg => rfl); (case hr => exact xq10); (case hp => exact (Reps.none _ _)); intro v274 w11 ho12 hb hg_ hnew_; clear hg_ hnew_; (first | rw [← Ny273.out] at ho12 | (simp only [Int.reduceToNat] at ho12; rw [← Ny273.out] at ho12)); have HO275 := rL (Kd.R_new' ho12 (rT HO_9)); replace HO_9 := rD HO_9 (Kd.R_base ho12) hb; replace HB := bS hb; clear hb ho12)))
     go_loopg [12, 13] k1 (fun kq v12 v13 w' => ∃ (x12_2 : List Int) (x13_2 : Int), v13 = .int .i64 x13_2 ∧ Aside0 (spec_l04Sum.l1 kq l1 t266 (l1.length : Int) x9_1 x12_2 x13_2 = some r) ∧ Aside0 (kq ≤ k1) ∧ Aside0 (Kd.R (Kd.int .i64) 3 w' w.heap.size (fun k_ => some k_ ≠ (v12 : Value).ownBlock) u9 x9_1) ∧ Aside0 (Kd.R (Kd.int .i64) 3 w' w.heap.size (fun k_ => some k_ ≠ (u9 : Value).ownBlock) v12 x12_2) ∧ Aside0 (Below w.heap.size w w'))
     case atStart => exact ⟨(y273), (0), eqA, H', ⟨Nat.le_refl _⟩, ⟨rE (Kd.R_mono HO_9.out (fun _ hk => hk.2))⟩, ⟨rE (Kd.R_mono HO275.out (fun _ hk => hk.2))⟩, ⟨belA⟩⟩
     case round =>
      clear H'; obtain ⟨x12_2, x13_2, rfl, HA, HK2, HO_9, HO_12, HB⟩ := hrel
      cases gk with
      | zero => exact absurd HA.out (by simp [spec_l04Sum.l1])
      | succ k2 =>
       have H := HA.out; clear HA; simp only [spec_l04Sum.l1] at H
       by_cases c13 : x13_2 < (l1.length : Int)
       · rw [if_pos c13] at H; have c13b0 := decide_eq_true c13; clear c13; have H' := Aside0.mk H; clear H; go_wp2
         repeat (go_quiet (fail); try go_wp2)
         go_loopg [14, 15] k2 (fun kq v14 v15 w' => ∃ (x14_3 : Int) (x15_3 : Int), v14 = .int .i64 x14_3 ∧ v15 = .int .i64 x15_3 ∧ Aside0 (spec_l04Sum.l2 kq l1 t266 (l1.length : Int) x9_1 x12_2 x13_2 x14_3 x15_3 = some r) ∧ Aside0 (kq ≤ k2) ∧ Aside0 (Kd.R (Kd.int .i64) 3 w' w.heap.size (fun k_ => some k_ ≠ (u12 : Value).ownBlock) u9 x9_1) ∧ Aside0 (Kd.R (Kd.int .i64) 3 w' w.heap.size (fun k_ => some k_ ≠ (u9 : Value).ownBlock) u12 x12_2) ∧ Aside0 (Below w.heap.size w w'))
         case atStart => exact ⟨(0), (0), eqA, eqA, H', ⟨Nat.le_refl _⟩, ⟨rA HO_9⟩, ⟨rA HO_12⟩, ⟨belA⟩⟩
         case round =>
          clear H'; obtain ⟨x14_3, x15_3, rfl, rfl, HA, HK3, HO_9, HO_12, HB⟩ := hrel
          cases gk with
          | zero => exact absurd HA.out (by simp [spec_l04Sum.l2])
          | succ k3 =>
           have H := HA.out; clear HA; simp only [spec_l04Sum.l2] at H
           by_cases c14 : x15_3 < (l1.length : Int)
           · rw [if_pos c14] at H; have c14b0 := decide_eq_true c14; clear c14
             by_cases c15 : 0 ≤ x15_3
             · rw [if_pos c15] at H; have c15b0 := decide_eq_true c15; clear c15
               by_cases c16 : x15_3 < (l1.length : Int)
               · rw [if_pos c16] at H; have c16b0 := decide_eq_true c16; clear c16
                 by_cases c17 : (l1.length : Int) = 0
                 · rw [if_pos c17] at H; exact absurd H (by simp)
                 · rw [if_neg c17] at H; have c17b0 : ((l1.length : Int) == 0) = false := beq_eq_false_iff_ne.mpr c17; have c17b1 : ((l1.length : Int) != 0) = true := bne_iff_ne.mpr c17; have c17b2 : ¬ (l1 = []) := fun h_ => c17 (by rw [h_]; rfl)
                   obtain ⟨ji18, hji18⟩ : ∃ j_ : Int, (Int.tmod (wrap64 (x13_2 * x15_3)) (l1.length : Int)) = j_ := ⟨_, rfl⟩; replace H : (if 0 ≤ (ji18) then (if (ji18) < (x9_1.length : Int) then (if t266 = 0 then (none) else (spec_l04Sum.l2 k3 l1 t266 (l1.length : Int) x9_1 x12_2 x13_2 (Int.tmod (wrap64 (x14_3 + (wrap64 ((rd l1 x15_3) * (rd x9_1 (ji18)))))) t266) (wrap64 (x15_3 + 1)))) else (none)) else (none)) = some r := by first | (rw [hji18] at H; exact H) | (simp only [hji18] at H ⊢; exact H)
                   by_cases c19 : 0 ≤ (ji18)
                   · rw [if_pos c19] at H; have c19b0 := decide_eq_true c19; clear c19
                     by_cases c20 : (ji18) < (x9_1.length : Int)
                     · rw [if_pos c20] at H; have c20b0 := decide_eq_true c20; clear c20
                       by_cases c21 : t266 = 0
                       · rw [if_pos c21] at H; exact absurd H (by simp)
                       · rw [if_neg c21] at H; have c21b0 : (t266 == 0) = false := beq_eq_false_iff_ne.mpr c21; have c21b1 : (t266 != 0) = true := bne_iff_ne.mpr c21; have H' := Aside0.mk H; clear H; have p276 : 0 ≤ (x15_3 : Int) := odA; have q276 : x15_3 < (l1.length : Int) := odA; obtain ⟨ad276, e276, hx276_0⟩ := Kd.at_int HR1.out x15_3 p276 q276
                         cases e276
                         try replace hx276_0 := cB HB hx276_0
                         replace p276 := eq_true p276; replace q276 := eq_true q276; obtain ⟨Ao22, co22, eo22⟩ := Kd.R_slice HO_9.out; subst eo22; have p277 : 0 ≤ ((ji18) : Int) := odA; have q277 : (ji18) < (x9_1.length : Int) := odA; obtain ⟨ad277, e277, hx277_0⟩ := Kd.at_int (Kd.R_reads' HO_9.out).2.2 (ji18) p277 q277
                         cases e277
                         replace p277 := eq_true p277; replace q277 := eq_true q277; go_wp2
                         repeat (go_quiet (fail); try go_wp2)
                         go_roundg k3
                         case measure => have := HK1.out; have := HK2.out; have := HK3.out; omega
                         case rel => exact ⟨(Int.tmod (wrap64 (x14_3 + (wrap64 ((rd l1 x15_3) * (rd x9_1 (ji18)))))) t266), (wrap64 (x15_3 + 1)), xq53, eqA, H', ⟨by have := HK1.out; have := HK2.out; have := HK3.out; omega⟩, ⟨rA HO_9⟩, ⟨rA HO_12⟩, ⟨belA⟩⟩
                     · rw [if_neg c20] at H; exact absurd H (by simp)
                   · rw [if_neg c19] at H; exact absurd H (by simp)
               · rw [if_neg c16] at H; exact absurd H (by simp)
             · rw [if_neg c15] at H; exact absurd H (by simp)
           · rw [if_neg c14] at H; have c14b0 := decide_eq_false c14; clear c14
             by_cases c23 : x12_2.length < 17592186044416
             · rw [if_pos c23] at H; have LMc23 := Aside0.mk c23; clear c23; obtain ⟨y278, hy278⟩ : ∃ y_ : List Int, y_ = (x12_2 ++ [x14_3]) := ⟨_, rfl⟩; replace H : (spec_l04Sum.l1 k3 l1 t266 (l1.length : Int) x9_1 y278 (wrap64 (x13_2 + 1))) = some r := by first | (rw [hy278]; with_reducible exact H) | (have H2_ := (Option.bind_some _ _).symm.trans H; rw [hy278]; with_reducible exact H2_) | (have H2_ := (Option.bind_some _ _).symm.trans H; with_reducible exact H2_) | with_reducible exact H | (rw [hy278]; exact H) | exact H
               have Ny278 := Aside0.mk hy278; clear hy278; have H' := Aside0.mk H; clear H; go_wp2_with (first | ((with_reducible refine gate_builtin (b := .append) (xs := #[.tmp 63, .tmp 65]) rfl ?_); at_builtin; refine Kd.R_append (Kd.int .i64) (w0 := w) w.heap.size rfl (.tmp 63) (.tmp 65) 27 3 (.int .i64 0) 8 rfl Try.underlying27 info3 rfl (by decide) (by omega) u12 x12_2 x14_3 [.int .i64 x14_3] (fun k_ => some k_ ≠ (u9 : Value).ownBlock) (fun _ => False) rfl rfl ?aP (fun _ hk => hk.elim) ?aF ?aO ?aB ?aS ?aL ?_; (case aP => exact rfl); (case aB => exact belA); (case aF => exact xq52); (case aO => exact (rA HO_12)); (case aS => exact (below_size belA)); (case aL => have := LMc23.out; omega); intro v279 w24 ho hb hg hat; rw [← Ny278.out] at ho; have HO280 := Aside0.mk ho; replace HO_9 := Aside0.mk (Kd.R_after (ok := (fun _ => True)) xq51 hg hat); replace HB := Aside0.mk hb; clear HO_12; clear ho hb hg hat))
               repeat (go_quiet (first | ((with_reducible refine gate_builtin (b := .append) (xs := #[.tmp 63, .tmp 65]) rfl ?_); at_builtin; refine Kd.R_append (Kd.int .i64) (w0 := w) w.heap.size rfl (.tmp 63) (.tmp 65) 27 3 (.int .i64 0) 8 rfl Try.underlying27 info3 rfl (by decide) (by omega) u12 x12_2 x14_3 [.int .i64 x14_3] (fun k_ => some k_ ≠ (u9 : Value).ownBlock) (fun _ => False) rfl rfl ?aP (fun _ hk => hk.elim) ?aF ?aO ?aB ?aS ?aL ?_; (case aP => exact rfl); (case aB => exact belA); (case aF => exact xq52); (case aO => exact (rA HO_12)); (case aS => exact (below_size belA)); (case aL => have := LMc23.out; omega); intro v279 w24 ho hb hg hat; rw [← Ny278.out] at ho; have HO280 := Aside0.mk ho; replace HO_9 := Aside0.mk (Kd.R_after (ok := (fun _ => True)) xq51 hg hat); replace HB := Aside0.mk hb; clear HO_12; clear ho hb hg hat)); try go_wp2_with (first | ((with_reducible refine gate_builtin (b := .append) (xs := #[.tmp 63, .tmp 65]) rfl ?_); at_builtin; refine Kd.R_append (Kd.int .i64) (w0 := w) w.heap.size rfl (.tmp 63) (.tmp 65) 27 3 (.int .i64 0) 8 rfl Try.underlying27 info3 rfl (by decide) (by omega) u12 x12_2 x14_3 [.int .i64 x14_3] (fun k_ => some k_ ≠ (u9 : Value).ownBlock) (fun _ => False) rfl rfl ?aP (fun _ hk => hk.elim) ?aF ?aO ?aB ?aS ?aL ?_; (case aP => exact rfl); (case aB => exact belA); (case aF => exact xq52); (case aO => exact (rA HO_12)); (case aS => exact (below_size belA)); (case aL => have := LMc23.out; omega); intro v279 w24 ho hb hg hat; rw [← Ny278.out] at ho; have HO280 := Aside0.mk ho; replace HO_9 := Aside0.mk (Kd.R_after (ok := (fun _ => True)) xq51 hg hat); replace HB := Aside0.mk hb; clear HO_12; clear ho hb hg hat)))
               go_roundg k3
               case measure => have := HK1.out; have := HK2.out; have := HK3.out; omega
               case rel => exact ⟨(y278), (wrap64 (x13_2 + 1)), eqA, H', ⟨by have := HK1.out; have := HK2.out; have := HK3.out; omega⟩, ⟨rE (Kd.R_mono HO_9.out (fun _ hk => hk.2))⟩, ⟨rA HO280⟩, ⟨belA⟩⟩
             · rw [if_neg c23] at H; exact absurd H (by simp)
       · rw [if_neg c13] at H; have c13b0 := decide_eq_false c13; clear c13; obtain rfl := Option.some.inj H; go_wp2
         repeat (go_quiet (fail); try go_wp2)
         go_ret
         exact ⟨_, xq2, by (with_reducible repeat (first | apply Kd.R_alloc | apply Kd.R_drewN | apply Kd.R_drew)); exact Kd.R_mono HO_12.out (fun _ hk => trivial), belA⟩

/-! ### spec_Reduce: function 153 -/
def spec_Reduce.f (a0 : Int) (a1 : Int) : Option (Int) := (spec_Modulus.f a0).bind fun t281 => (if t281 = 0 then (some (-1)) else (if (Int.tmod a1 t281) < 0 then (some (wrap64 ((Int.tmod a1 t281) + t281))) else (some (Int.tmod a1 t281))))
set_option maxHeartbeats 8000000 in
set_option maxRecDepth 100000 in
theorem spec_Reduce.calls (a0 : Int) (a1 : Int) (r : Int) (w : World) (h : spec_Reduce.f a0 a1 = some r) :
 Calls Try.prog 153 #[.int .i64 a0, .int .i64 a1] w fun e w' => e = .returned (.int .i64 r) ∧ Drawn0 w w' := by
 have H : ((spec_Modulus.f a0).bind fun t281 => (if t281 = 0 then (some (-1)) else (if (Int.tmod a1 t281) < 0 then (some (wrap64 ((Int.tmod a1 t281) + t281))) else (some (Int.tmod a1 t281))))) = some r := h; clear h; replace H := Option.bind_eq_some_iff.mp H; obtain ⟨t281, A30, H⟩ := H; replace H : (if t281 = 0 then (some (-1)) else (if (Int.tmod a1 t281) < 0 then (some (wrap64 ((Int.tmod a1 t281) + t281))) else (some (Int.tmod a1 t281)))) = some r := H
 have A3 := Aside0.mk A30; clear A30
 by_cases c4 : t281 = 0
 · rw [if_pos c4] at H; have c4b0 : (t281 == 0) = true := beq_iff_eq.mpr c4; have c4b1 : (t281 != 0) = false := bne_eq_false_iff_eq.mpr c4; clear c4; obtain rfl := Option.some.inj H; go_enter Try.func153, Try.ntmps153
   go_wp2_with (first | ((with_reducible refine gate_callee (f := 117) rfl ?_); refine goesL_ (some 8) rfl rfl Try.func117 (by kernel_rfl) rfl #[.int .i64 a0] rfl xq1 ?_; (with_reducible refine (spec_Modulus.calls a0 t281 _ A3.out).mono ?_); rintro e w' ⟨rfl, ⟨nd, rfl⟩⟩; refine ⟨_, rfl, ?_⟩))
   go_ret
   exact ⟨xq7, xq3⟩
 · rw [if_neg c4] at H; have c4b0 : (t281 == 0) = false := beq_eq_false_iff_ne.mpr c4; have c4b1 : (t281 != 0) = true := bne_iff_ne.mpr c4
   by_cases c5 : (Int.tmod a1 t281) < 0
   · rw [if_pos c5] at H; have c5b0 := decide_eq_true c5; clear c5; obtain rfl := Option.some.inj H; go_enter Try.func153, Try.ntmps153
     go_wp2_with (first | ((with_reducible refine gate_callee (f := 117) rfl ?_); refine goesL_ (some 8) rfl rfl Try.func117 (by kernel_rfl) rfl #[.int .i64 a0] rfl xq1 ?_; (with_reducible refine (spec_Modulus.calls a0 t281 _ A3.out).mono ?_); rintro e w' ⟨rfl, ⟨nd, rfl⟩⟩; refine ⟨_, rfl, ?_⟩))
     go_ret
     exact ⟨xq7, xq3⟩
   · rw [if_neg c5] at H; have c5b0 := decide_eq_false c5; clear c5; obtain rfl := Option.some.inj H; go_enter Try.func153, Try.ntmps153
     go_wp2_with (first | ((with_reducible refine gate_callee (f := 117) rfl ?_); refine goesL_ (some 8) rfl rfl Try.func117 (by kernel_rfl) rfl #[.int .i64 a0] rfl xq1 ?_; (with_reducible refine (spec_Modulus.calls a0 t281 _ A3.out).mono ?_); rintro e w' ⟨rfl, ⟨nd, rfl⟩⟩; refine ⟨_, rfl, ?_⟩))
     go_ret
     exact ⟨xq7, xq3⟩

/-! ### spec_Power: function 118 -/
mutual
def spec_Power.j0 : Nat → Int → Int → Int → Option (Int)
 | 0, _, _, _ => none
 | k + 1, x7, x8, x9 => spec_Power.l0 k x7 x8 x9 1
def spec_Power.l0 : Nat → Int → Int → Int → Int → Option (Int)
 | 0, _, _, _, _ => none
 | k + 1, x7, x8, x9, x10 => if x9 > 0 then (if (Int.tmod x9 2) = 1 then (if x7 = 0 then (none) else (spec_Power.l0 k x7 (Int.tmod (wrap64 (x8 * x8)) x7) (wrap64 (Int.tdiv x9 2)) (Int.tmod (wrap64 (x10 * x8)) x7))) else (if x7 = 0 then (none) else (spec_Power.l0 k x7 (Int.tmod (wrap64 (x8 * x8)) x7) (wrap64 (Int.tdiv x9 2)) x10))) else (some x10)
end
def spec_Power.f (k : Nat) (a0 : Int) (a1 : Int) (a2 : Int) : Option (Int) := (spec_Modulus.f a0).bind fun t282 => (if t282 = 0 then (some (-1)) else ((spec_Reduce.f a0 a1).bind fun t283 => (if t283 = 0 then (if a2 = 0 then (some 1) else (if a2 < 0 then (some (-1)) else (some 0))) else (if (wrap64 (t282 - 1)) = 0 then (none) else (if (Int.tmod a2 (wrap64 (t282 - 1))) < 0 then (spec_Power.j0 k t282 t283 (wrap64 ((wrap64 ((Int.tmod a2 (wrap64 (t282 - 1))) + t282)) - 1))) else (spec_Power.j0 k t282 t283 (Int.tmod a2 (wrap64 (t282 - 1)))))))))
theorem spec_Power.mono_l : ∀ k, (∀ y0 y1 y2, LeO (spec_Power.j0 k y0 y1 y2) (spec_Power.j0 (k + 1) y0 y1 y2)) ∧ (∀ y0 y1 y2 y3, LeO (spec_Power.l0 k y0 y1 y2 y3) (spec_Power.l0 (k + 1) y0 y1 y2 y3))
 | 0 => ⟨fun _ _ _ r h => by simp [spec_Power.j0] at h, fun _ _ _ _ r h => by simp [spec_Power.l0] at h⟩
 | k + 1 => by
  obtain ⟨ih0, ih1⟩ := spec_Power.mono_l k; refine ⟨?_, ?_⟩
  · intro y0 y1 y2
    unfold spec_Power.j0
    repeat' first
    | (with_reducible exact ih0 _ _ _)
    | (with_reducible exact ih1 _ _ _ _)
    | (with_reducible exact LeO.refl _)
    | (with_reducible exact LeO.none _)
    | (with_reducible refine LeO.ite ?_ ?_)
    | (with_reducible refine LeO.bind ?_ (fun _ => ?_))
    | exact ih0 _ _ _
    | exact ih1 _ _ _ _
    | exact LeO.none _
    | refine LeO.ite ?_ ?_
    | refine LeO.bind ?_ (fun _ => ?_)
  · intro y0 y1 y2 y3
    unfold spec_Power.l0
    repeat' first
    | (with_reducible exact ih0 _ _ _)
    | (with_reducible exact ih1 _ _ _ _)
    | (with_reducible exact LeO.refl _)
    | (with_reducible exact LeO.none _)
    | (with_reducible refine LeO.ite ?_ ?_)
    | (with_reducible refine LeO.bind ?_ (fun _ => ?_))
    | exact ih0 _ _ _
    | exact ih1 _ _ _ _
    | exact LeO.none _
    | refine LeO.ite ?_ ?_
    | refine LeO.bind ?_ (fun _ => ?_)
theorem spec_Power.mono : ∀ a0 a1 a2 k, LeO (spec_Power.f k a0 a1 a2) (spec_Power.f (k + 1) a0 a1 a2) := by
 intro a0 a1 a2 k; obtain ⟨ih0, ih1⟩ := spec_Power.mono_l k
 unfold spec_Power.f
 repeat' first
  | (with_reducible exact ih0 _ _ _)
  | (with_reducible exact ih1 _ _ _ _)
  | (with_reducible exact LeO.refl _)
  | (with_reducible exact LeO.none _)
  | (with_reducible refine LeO.ite ?_ ?_)
  | (with_reducible refine LeO.bind ?_ (fun _ => ?_))
  | exact ih0 _ _ _
  | exact ih1 _ _ _ _
  | exact LeO.none _
  | refine LeO.ite ?_ ?_
  | refine LeO.bind ?_ (fun _ => ?_)
set_option maxHeartbeats 8000000 in
set_option maxRecDepth 100000 in
theorem spec_Power.calls (k : Nat) (a0 : Int) (a1 : Int) (a2 : Int) (r : Int) (w : World) (h : spec_Power.f k a0 a1 a2 = some r) :
 Calls Try.prog 118 #[.int .i64 a0, .int .i64 a1, .int .i64 a2] w fun e w' => e = .returned (.int .i64 r) ∧ Drawn0 w w' := by
 have H : ((spec_Modulus.f a0).bind fun t282 => (if t282 = 0 then (some (-1)) else ((spec_Reduce.f a0 a1).bind fun t283 => (if t283 = 0 then (if a2 = 0 then (some 1) else (if a2 < 0 then (some (-1)) else (some 0))) else (if (wrap64 (t282 - 1)) = 0 then (none) else (if (Int.tmod a2 (wrap64 (t282 - 1))) < 0 then (spec_Power.j0 k t282 t283 (wrap64 ((wrap64 ((Int.tmod a2 (wrap64 (t282 - 1))) + t282)) - 1))) else (spec_Power.j0 k t282 t283 (Int.tmod a2 (wrap64 (t282 - 1)))))))))) = some r := h; clear h; replace H := Option.bind_eq_some_iff.mp H; obtain ⟨t282, A40, H⟩ := H; replace H : (if t282 = 0 then (some (-1)) else ((spec_Reduce.f a0 a1).bind fun t283 => (if t283 = 0 then (if a2 = 0 then (some 1) else (if a2 < 0 then (some (-1)) else (some 0))) else (if (wrap64 (t282 - 1)) = 0 then (none) else (if (Int.tmod a2 (wrap64 (t282 - 1))) < 0 then (spec_Power.j0 k t282 t283 (wrap64 ((wrap64 ((Int.tmod a2 (wrap64 (t282 - 1))) + t282)) - 1))) else (spec_Power.j0 k t282 t283 (Int.tmod a2 (wrap64 (t282 - 1))))))))) = some r := H
 have A4 := Aside0.mk A40; clear A40
 by_cases c5 : t282 = 0
 · rw [if_pos c5] at H; have c5b0 : (t282 == 0) = true := beq_iff_eq.mpr c5; have c5b1 : (t282 != 0) = false := bne_eq_false_iff_eq.mpr c5; clear c5; obtain rfl := Option.some.inj H; go_enter Try.func118, Try.ntmps118
   go_wp2_with (first | ((with_reducible refine gate_callee (f := 117) rfl ?_); refine goesL_ (some 12) rfl rfl Try.func117 (by kernel_rfl) rfl #[.int .i64 a0] rfl xq1 ?_; (with_reducible refine (spec_Modulus.calls a0 t282 _ A4.out).mono ?_); rintro e w' ⟨rfl, ⟨nd, rfl⟩⟩; refine ⟨_, rfl, ?_⟩))
   go_ret
   exact ⟨xq7, xq3⟩
 · rw [if_neg c5] at H; have c5b0 : (t282 == 0) = false := beq_eq_false_iff_ne.mpr c5; have c5b1 : (t282 != 0) = true := bne_iff_ne.mpr c5; replace H := Option.bind_eq_some_iff.mp H; obtain ⟨t283, A60, H⟩ := H; replace H : (if t283 = 0 then (if a2 = 0 then (some 1) else (if a2 < 0 then (some (-1)) else (some 0))) else (if (wrap64 (t282 - 1)) = 0 then (none) else (if (Int.tmod a2 (wrap64 (t282 - 1))) < 0 then (spec_Power.j0 k t282 t283 (wrap64 ((wrap64 ((Int.tmod a2 (wrap64 (t282 - 1))) + t282)) - 1))) else (spec_Power.j0 k t282 t283 (Int.tmod a2 (wrap64 (t282 - 1))))))) = some r := H
   have A6 := Aside0.mk A60; clear A60
   by_cases c7 : t283 = 0
   · rw [if_pos c7] at H; have c7b0 : (t283 == 0) = true := beq_iff_eq.mpr c7; have c7b1 : (t283 != 0) = false := bne_eq_false_iff_eq.mpr c7; clear c7
     by_cases c8 : a2 = 0
     · rw [if_pos c8] at H; have c8b0 : (a2 == 0) = true := beq_iff_eq.mpr c8; have c8b1 : (a2 != 0) = false := bne_eq_false_iff_eq.mpr c8; clear c8; obtain rfl := Option.some.inj H; go_enter Try.func118, Try.ntmps118
       go_wp2_with (first | ((with_reducible refine gate_callee (f := 117) rfl ?_); refine goesL_ (some 12) rfl rfl Try.func117 (by kernel_rfl) rfl #[.int .i64 a0] rfl xq1 ?_; (with_reducible refine (spec_Modulus.calls a0 t282 _ A4.out).mono ?_); rintro e w' ⟨rfl, ⟨nd, rfl⟩⟩; refine ⟨_, rfl, ?_⟩) | ((with_reducible refine gate_callee (f := 153) rfl ?_); refine goesL_ (some 17) rfl rfl Try.func153 (by kernel_rfl) rfl #[.int .i64 a0, .int .i64 a1] rfl xq1 ?_; (with_reducible refine (spec_Reduce.calls a0 a1 t283 _ A6.out).mono ?_); rintro e w' ⟨rfl, ⟨nd, rfl⟩⟩; refine ⟨_, rfl, ?_⟩))
       go_ret
       exact ⟨xq7, xq3⟩
     · rw [if_neg c8] at H; have c8b0 : (a2 == 0) = false := beq_eq_false_iff_ne.mpr c8; have c8b1 : (a2 != 0) = true := bne_iff_ne.mpr c8
       by_cases c9 : a2 < 0
       · rw [if_pos c9] at H; have c9b0 := decide_eq_true c9; clear c9; obtain rfl := Option.some.inj H; go_enter Try.func118, Try.ntmps118
         go_wp2_with (first | ((with_reducible refine gate_callee (f := 117) rfl ?_); refine goesL_ (some 12) rfl rfl Try.func117 (by kernel_rfl) rfl #[.int .i64 a0] rfl xq1 ?_; (with_reducible refine (spec_Modulus.calls a0 t282 _ A4.out).mono ?_); rintro e w' ⟨rfl, ⟨nd, rfl⟩⟩; refine ⟨_, rfl, ?_⟩) | ((with_reducible refine gate_callee (f := 153) rfl ?_); refine goesL_ (some 17) rfl rfl Try.func153 (by kernel_rfl) rfl #[.int .i64 a0, .int .i64 a1] rfl xq1 ?_; (with_reducible refine (spec_Reduce.calls a0 a1 t283 _ A6.out).mono ?_); rintro e w' ⟨rfl, ⟨nd, rfl⟩⟩; refine ⟨_, rfl, ?_⟩))
         go_ret
         exact ⟨xq7, xq3⟩
       · rw [if_neg c9] at H; have c9b0 := decide_eq_false c9; clear c9; obtain rfl := Option.some.inj H; go_enter Try.func118, Try.ntmps118
         go_wp2_with (first | ((with_reducible refine gate_callee (f := 117) rfl ?_); refine goesL_ (some 12) rfl rfl Try.func117 (by kernel_rfl) rfl #[.int .i64 a0] rfl xq1 ?_; (with_reducible refine (spec_Modulus.calls a0 t282 _ A4.out).mono ?_); rintro e w' ⟨rfl, ⟨nd, rfl⟩⟩; refine ⟨_, rfl, ?_⟩) | ((with_reducible refine gate_callee (f := 153) rfl ?_); refine goesL_ (some 17) rfl rfl Try.func153 (by kernel_rfl) rfl #[.int .i64 a0, .int .i64 a1] rfl xq1 ?_; (with_reducible refine (spec_Reduce.calls a0 a1 t283 _ A6.out).mono ?_); rintro e w' ⟨rfl, ⟨nd, rfl⟩⟩; refine ⟨_, rfl, ?_⟩))
         go_ret
         exact ⟨xq7, xq3⟩
   · rw [if_neg c7] at H; have c7b0 : (t283 == 0) = false := beq_eq_false_iff_ne.mpr c7; have c7b1 : (t283 != 0) = true := bne_iff_ne.mpr c7
     by_cases c10 : (wrap64 (t282 - 1)) = 0
     · rw [if_pos c10] at H; exact absurd H (by simp)
     · rw [if_neg c10] at H; have c10b0 : ((wrap64 (t282 - 1)) == 0) = false := beq_eq_false_iff_ne.mpr c10; have c10b1 : ((wrap64 (t282 - 1)) != 0) = true := bne_iff_ne.mpr c10; have HC11 := Aside0.mk H; clear H; go_enter Try.func118, Try.ntmps118
       go_upto_if 29 with (first | ((with_reducible refine gate_callee (f := 117) rfl ?_); refine goesL_ (some 12) rfl rfl Try.func117 (by kernel_rfl) rfl #[.int .i64 a0] rfl xq1 ?_; (with_reducible refine (spec_Modulus.calls a0 t282 _ A4.out).mono ?_); rintro e w' ⟨rfl, ⟨nd, rfl⟩⟩; refine ⟨_, rfl, ?_⟩) | ((with_reducible refine gate_callee (f := 153) rfl ?_); refine goesL_ (some 17) rfl rfl Try.func153 (by kernel_rfl) rfl #[.int .i64 a0, .int .i64 a1] rfl xq1 ?_; (with_reducible refine (spec_Reduce.calls a0 a1 t283 _ A6.out).mono ?_); rintro e w' ⟨rfl, ⟨nd, rfl⟩⟩; refine ⟨_, rfl, ?_⟩))
       (try simp only [Act.put, sa, sb, sc])
       go_cut [9] (fun v9 wc => ∃ (kq : Nat) (x9_10 : Int), v9 = .int .i64 x9_10 ∧ Aside0 (spec_Power.j0 kq t282 t283 x9_10 = some r) ∧ Aside0 (kq ≤ k) ∧ Drawn0 w wc)
       case first =>
        have H := HC11.out; clear HC11
        by_cases c12 : (Int.tmod a2 (wrap64 (t282 - 1))) < 0
        · rw [if_pos c12] at H; have c12b0 := decide_eq_true c12; have c12b0w : decide ((Int.tmod a2 (IntKind.i64.wrap (t282 - 1))) < 0) = true := by simp only [i64_w]; exact c12b0
          clear c12; (first | rw [c12b0] | (simp only [i64_w, i32_w]; rw [c12b0]) | skip)
          have H' := Aside0.mk H; clear H; go_wp2
          go_meet
          case rel => exact ⟨_, (wrap64 ((wrap64 ((Int.tmod a2 (wrap64 (t282 - 1))) + t282)) - 1)), eqA, H', ⟨xq11⟩, xq3⟩
        · rw [if_neg c12] at H; have c12b0 := decide_eq_false c12; have c12b0w : decide ((Int.tmod a2 (IntKind.i64.wrap (t282 - 1))) < 0) = false := by simp only [i64_w]; exact c12b0
          clear c12; (first | rw [c12b0] | (simp only [i64_w, i32_w]; rw [c12b0]) | skip)
          have H' := Aside0.mk H; clear H; go_wp2
          go_meet
          case rel => exact ⟨_, (Int.tmod a2 (wrap64 (t282 - 1))), eqA, H', ⟨xq11⟩, xq3⟩
       case rest =>
        clear HC11; obtain ⟨kq, x9_10, rfl, HA, HJ10, ⟨mc10, rfl⟩⟩ := hcut
        cases kq with
        | zero => exact absurd HA.out (by simp [spec_Power.j0])
        | succ kj10 =>
         have H := HA.out; clear HA; simp only [spec_Power.j0] at H; have H' := Aside0.mk H; clear H; go_wp2
         go_loopg [8, 9, 10] kj10 (fun kq v8 v9 v10 w' => ∃ (x8_2 : Int) (x9_2 : Int) (x10_2 : Int), v8 = .int .i64 x8_2 ∧ v9 = .int .i64 x9_2 ∧ v10 = .int .i64 x10_2 ∧ Aside0 (spec_Power.l0 kq t282 x8_2 x9_2 x10_2 = some r) ∧ Aside0 (kq ≤ kj10) ∧ Drawn0 w w')
         case atStart => exact ⟨(t283), (x9_10), (1), eqA, eqA, eqA, H', ⟨Nat.le_refl _⟩, xq3⟩
         case round =>
          clear H'; obtain ⟨x8_2, x9_2, x10_2, rfl, rfl, rfl, HA, HK2, ⟨m2, rfl⟩⟩ := hrel
          cases gk with
          | zero => exact absurd HA.out (by simp [spec_Power.l0])
          | succ k2 =>
           have H := HA.out; clear HA; simp only [spec_Power.l0] at H
           by_cases c13 : x9_2 > 0
           · rw [if_pos c13] at H; have c13b0 := decide_eq_true c13; clear c13
             by_cases c14 : (Int.tmod x9_2 2) = 1
             · rw [if_pos c14] at H; have c14b0 : ((Int.tmod x9_2 2) == 1) = true := beq_iff_eq.mpr c14; have c14b1 : ((Int.tmod x9_2 2) != 1) = false := bne_eq_false_iff_eq.mpr c14; clear c14
               by_cases c15 : t282 = 0
               · rw [if_pos c15] at H; exact absurd H (by simp)
               · rw [if_neg c15] at H; have c15b0 : (t282 == 0) = false := beq_eq_false_iff_ne.mpr c15; have c15b1 : (t282 != 0) = true := bne_iff_ne.mpr c15; have H' := Aside0.mk H; clear H; go_wp2
                 go_roundg k2
                 case measure => have := HJ10.out; have := HK2.out; omega
                 case rel => exact ⟨(Int.tmod (wrap64 (x8_2 * x8_2)) t282), (wrap64 (Int.tdiv x9_2 2)), (Int.tmod (wrap64 (x10_2 * x8_2)) t282), eqA, eqA, eqA, H', ⟨by have := HJ10.out; have := HK2.out; omega⟩, xq3⟩
             · rw [if_neg c14] at H; have c14b0 : ((Int.tmod x9_2 2) == 1) = false := beq_eq_false_iff_ne.mpr c14; have c14b1 : ((Int.tmod x9_2 2) != 1) = true := bne_iff_ne.mpr c14
               by_cases c16 : t282 = 0
               · rw [if_pos c16] at H; exact absurd H (by simp)
               · rw [if_neg c16] at H; have c16b0 : (t282 == 0) = false := beq_eq_false_iff_ne.mpr c16; have c16b1 : (t282 != 0) = true := bne_iff_ne.mpr c16; have H' := Aside0.mk H; clear H; go_wp2
                 go_roundg k2
                 case measure => have := HJ10.out; have := HK2.out; omega
                 case rel => exact ⟨(Int.tmod (wrap64 (x8_2 * x8_2)) t282), (wrap64 (Int.tdiv x9_2 2)), (x10_2), eqA, eqA, eqA, H', ⟨by have := HJ10.out; have := HK2.out; omega⟩, xq3⟩
           · rw [if_neg c13] at H; have c13b0 := decide_eq_false c13; clear c13; obtain rfl := Option.some.inj H; go_wp2
             go_ret
             exact ⟨xq7, xq3⟩

end Go.Proofs.Ytbojabmpcfclhaa.PFnPlanAny

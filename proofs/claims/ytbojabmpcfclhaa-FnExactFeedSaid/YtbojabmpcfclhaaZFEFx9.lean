-- Written by a program of this session (the print of the kit with contracts of this session's own added)
import Derived.Test.YtbojabmpcfclhaaZFEFx0
import Derived.Test.YtbojabmpcfclhaaZFEFx8
import Derived.Test.YtbojabmpcfclhaaZFEFV
namespace Go.Proofs.Ytbojabmpcfclhaa.PFnExactFeed
open Go.RowKit Go.Proofs.YtbojabmpcfclhaaW.PrintWords Go.Proofs.YtbojabmpcfclhaaW.PrintLast Go.Proofs.YtbojabmpcfclhaaW.PrintMore Go.Proofs.YtbojabmpcfclhaaW.PrintPack
attribute [local go_sem] max2_int min2_int max_two min_two max_three min_three max_four min_four   -- for this text's walks alone
set_option linter.unusedVariables false
set_option linter.unusedSimpArgs false

/-! ### laws_heldFrameS: function 57 -/
def laws_heldFrameS.l0 : Nat → List (S109) → Int → Int → Option (Int)
 | 0, _, _, _ => none
 | k + 1, x0, x1, x5 => if x5 < (x0.length : Int) then (if 0 ≤ x5 then (if ((rd_T109 x0 x5).f0) = x1 then (if ((rd_T109 x0 x5).f1) = (wrap64 (x1 + 1)) then ((laws_heldByteS.f k ((rd_T109 x0 x5).f2) (wrap64 ((wrap64 (x1 + 1)) + 1))).bind fun t290 => (if t290 < 0 then (some (-1)) else (laws_heldFrameS.l0 k x0 t290 (wrap64 (x5 + 1))))) else (some (-1))) else (some (-1))) else (none)) else (some x1)
def laws_heldFrameS.f (k : Nat) (l0 : List (S109)) (a1 : Int) : Option (Int) := laws_heldFrameS.l0 k l0 a1 0
theorem laws_heldFrameS.mono_l : ∀ k, (∀ y0 y1 y2, LeO (laws_heldFrameS.l0 k y0 y1 y2) (laws_heldFrameS.l0 (k + 1) y0 y1 y2))
 | 0 => fun _ _ _ r h => by simp [laws_heldFrameS.l0] at h
 | k + 1 => by
  have ih0 := laws_heldFrameS.mono_l k
  · intro y0 y1 y2
    unfold laws_heldFrameS.l0
    repeat' first
    | (with_reducible exact ih0 _ _ _)
    | (with_reducible exact laws_heldByteS.mono _ _ _)
    | (with_reducible exact LeO.refl _)
    | (with_reducible exact LeO.none _)
    | (with_reducible refine LeO.ite ?_ ?_)
    | (with_reducible refine LeO.bind ?_ (fun _ => ?_))
    | exact ih0 _ _ _
    | exact laws_heldByteS.mono _ _ _
    | exact LeO.none _
    | refine LeO.ite ?_ ?_
    | refine LeO.bind ?_ (fun _ => ?_)
theorem laws_heldFrameS.mono : ∀ a0 a1 k, LeO (laws_heldFrameS.f k a0 a1) (laws_heldFrameS.f (k + 1) a0 a1) := by
 intro a0 a1 k; have ih0 := laws_heldFrameS.mono_l k
 unfold laws_heldFrameS.f
 repeat' first
  | (with_reducible exact ih0 _ _ _)
  | (with_reducible exact laws_heldByteS.mono _ _ _)
  | (with_reducible exact LeO.refl _)
  | (with_reducible exact LeO.none _)
  | (with_reducible refine LeO.ite ?_ ?_)
  | (with_reducible refine LeO.bind ?_ (fun _ => ?_))
  | exact ih0 _ _ _
  | exact laws_heldByteS.mono _ _ _
  | exact LeO.none _
  | refine LeO.ite ?_ ?_
  | refine LeO.bind ?_ (fun _ => ?_)
set_option maxHeartbeats 8000000 in
set_option maxRecDepth 100000 in
theorem laws_heldFrameS.calls (k : Nat) (A0 : Option Addr) (c0 : Nat) (l0 : List (S109)) (a1 : Int) (r : Int) (w : World) (hr0 : Kd.C k109 w A0 l0.length l0) (hc0 : l0.length ≤ c0) (h : laws_heldFrameS.f k l0 a1 = some r) :
 Calls Try.prog 57 #[.slice A0 l0.length c0, .int .i64 a1] w fun e w' => e = .returned (.int .i64 r) ∧ Drawn0 w w' := by
 have HR0 := Aside0.mk hr0; have HC0 := Aside0.mk hc0; clear hr0 hc0; have H : (laws_heldFrameS.l0 k l0 a1 0) = some r := h; clear h; have H' := Aside0.mk H; clear H; go_enter Try.func57, Try.ntmps57
 go_wp2
 go_loopg [1, 5] k (fun kq v1 v5 w' => ∃ (x1_1 : Int) (x5_1 : Int), v1 = .int .i64 x1_1 ∧ v5 = .int .i64 x5_1 ∧ Aside0 (laws_heldFrameS.l0 kq l0 x1_1 x5_1 = some r) ∧ Aside0 (kq ≤ k) ∧ Drawn0 w w')
 case atStart => exact ⟨(a1), (0), eqA, eqA, H', ⟨Nat.le_refl _⟩, by repeat (first | exact Drawn0.refl _ | apply Drawn0.step)⟩
 case round =>
  clear H'; obtain ⟨x1_1, x5_1, rfl, rfl, HA, HK1, ⟨m1, rfl⟩⟩ := hrel
  cases gk with
  | zero => exact absurd HA.out (by simp [laws_heldFrameS.l0])
  | succ k1 =>
   have H := HA.out; clear HA; simp only [laws_heldFrameS.l0] at H
   by_cases c3 : x5_1 < (l0.length : Int)
   · rw [if_pos c3] at H; have c3b0 := decide_eq_true c3; clear c3
     by_cases c4 : 0 ≤ x5_1
     · rw [if_pos c4] at H; have c4b0 := decide_eq_true c4; clear c4
       by_cases c5 : ((rd_T109 l0 x5_1).f0) = x1_1
       · rw [if_pos c5] at H; have c5b0 : (((rd_T109 l0 x5_1).f0) == x1_1) = true := beq_iff_eq.mpr c5; have c5b1 : (((rd_T109 l0 x5_1).f0) != x1_1) = false := bne_eq_false_iff_eq.mpr c5; clear c5
         by_cases c6 : ((rd_T109 l0 x5_1).f1) = (wrap64 (x1_1 + 1))
         · rw [if_pos c6] at H; have c6b0 : (((rd_T109 l0 x5_1).f1) == (wrap64 (x1_1 + 1))) = true := beq_iff_eq.mpr c6; have c6b1 : (((rd_T109 l0 x5_1).f1) != (wrap64 (x1_1 + 1))) = false := bne_eq_false_iff_eq.mpr c6; clear c6; replace H := Option.bind_eq_some_iff.mp H; obtain ⟨t290, A70, H⟩ := H; replace H : (if t290 < 0 then (some (-1)) else (laws_heldFrameS.l0 k1 l0 t290 (wrap64 (x5_1 + 1)))) = some r := H
           have A7 := Aside0.mk A70; clear A70
           by_cases c8 : t290 < 0
           · rw [if_pos c8] at H; have c8b0 := decide_eq_true c8; clear c8; obtain rfl := Option.some.inj H; have p287 : 0 ≤ (x5_1 : Int) := odA; have q287 : x5_1 < (l0.length : Int) := odA; obtain ⟨ad287, A287_2, c287_2, e287, hx287_0, hx287_1, hx287_2, hl287_2, hi287_2⟩ := at_T109 HR0.out x5_1 p287 q287
             cases e287
             have HR287_2 := Aside0.mk hi287_2; have HC287_2 := Aside0.mk hl287_2; clear hi287_2 hl287_2; replace p287 := eq_true p287; replace q287 := eq_true q287; have p288 : 0 ≤ (x5_1 : Int) := odA; have q288 : x5_1 < (l0.length : Int) := odA; obtain ⟨ad288, A288_2, c288_2, e288, hx288_0, hx288_1, hx288_2, hl288_2, hi288_2⟩ := at_T109 HR0.out x5_1 p288 q288; obtain rfl : ad287 = ad288 := (by injection e288); have HR288_2 := Aside0.mk hi288_2; have HC288_2 := Aside0.mk hl288_2; clear hi288_2 hl288_2; replace p288 := eq_true p288; replace q288 := eq_true q288; have ea_ := Option.some.inj (hx287_2.symm.trans hx288_2); injection ea_ with ea_ en_ ec_
             subst ea_; subst ec_; clear en_; have p289 : 0 ≤ (x5_1 : Int) := odA; have q289 : x5_1 < (l0.length : Int) := odA; obtain ⟨ad289, A289_2, c289_2, e289, hx289_0, hx289_1, hx289_2, hl289_2, hi289_2⟩ := at_T109 HR0.out x5_1 p289 q289; obtain rfl : ad287 = ad289 := (by injection e289); have HR289_2 := Aside0.mk hi289_2; have HC289_2 := Aside0.mk hl289_2; clear hi289_2 hl289_2; replace p289 := eq_true p289; replace q289 := eq_true q289; have ea_ := Option.some.inj (hx287_2.symm.trans hx289_2); injection ea_ with ea_ en_ ec_
             subst ea_; subst ec_; clear en_; go_wp2_with (first | ((with_reducible refine gate_callee (f := 29) rfl ?_); refine goesL_ (some 36) rfl rfl Try.func29 (by kernel_rfl) rfl #[.slice A287_2 ((rd_T109 l0 x5_1).f2).length c287_2, .int .i64 (wrap64 ((wrap64 (x1_1 + 1)) + 1))] rfl (by (try simp only [List.map_toArray, List.map_cons, List.map_nil]); first | done | rfl | (simp only [List.length_drop, List.length_take]; rfl) | (simp only [Int.tmod_eq_emod_of_nonneg (Int.natCast_nonneg _)]; done) | (simp only [Int.tmod_eq_emod_of_nonneg (Int.natCast_nonneg _)]; rfl)) ?_; (with_reducible refine (laws_heldByteS.calls k1 _ _ ((rd_T109 l0 x5_1).f2) (wrap64 ((wrap64 (x1_1 + 1)) + 1)) t290 _ ?side1 ?side2 A7.out).mono ?_); (case side1 => exact cA HR289_2.out); (case side2 => exact HC289_2.out); rintro e w' ⟨rfl, ⟨nd, rfl⟩⟩; refine ⟨_, rfl, ?_⟩))
             go_ret
             exact ⟨by first | rfl | (simp; done) | (simp [*]; done), by repeat (first | exact Drawn0.refl _ | apply Drawn0.step)⟩
           · rw [if_neg c8] at H; have c8b0 := decide_eq_false c8; clear c8; have H' := Aside0.mk H; clear H; have p287 : 0 ≤ (x5_1 : Int) := odA; have q287 : x5_1 < (l0.length : Int) := odA; obtain ⟨ad287, A287_2, c287_2, e287, hx287_0, hx287_1, hx287_2, hl287_2, hi287_2⟩ := at_T109 HR0.out x5_1 p287 q287
             cases e287
             have HR287_2 := Aside0.mk hi287_2; have HC287_2 := Aside0.mk hl287_2; clear hi287_2 hl287_2; replace p287 := eq_true p287; replace q287 := eq_true q287; have p288 : 0 ≤ (x5_1 : Int) := odA; have q288 : x5_1 < (l0.length : Int) := odA; obtain ⟨ad288, A288_2, c288_2, e288, hx288_0, hx288_1, hx288_2, hl288_2, hi288_2⟩ := at_T109 HR0.out x5_1 p288 q288; obtain rfl : ad287 = ad288 := (by injection e288); have HR288_2 := Aside0.mk hi288_2; have HC288_2 := Aside0.mk hl288_2; clear hi288_2 hl288_2; replace p288 := eq_true p288; replace q288 := eq_true q288; have ea_ := Option.some.inj (hx287_2.symm.trans hx288_2); injection ea_ with ea_ en_ ec_
             subst ea_; subst ec_; clear en_; have p289 : 0 ≤ (x5_1 : Int) := odA; have q289 : x5_1 < (l0.length : Int) := odA; obtain ⟨ad289, A289_2, c289_2, e289, hx289_0, hx289_1, hx289_2, hl289_2, hi289_2⟩ := at_T109 HR0.out x5_1 p289 q289; obtain rfl : ad287 = ad289 := (by injection e289); have HR289_2 := Aside0.mk hi289_2; have HC289_2 := Aside0.mk hl289_2; clear hi289_2 hl289_2; replace p289 := eq_true p289; replace q289 := eq_true q289; have ea_ := Option.some.inj (hx287_2.symm.trans hx289_2); injection ea_ with ea_ en_ ec_
             subst ea_; subst ec_; clear en_; go_wp2_with (first | ((with_reducible refine gate_callee (f := 29) rfl ?_); refine goesL_ (some 36) rfl rfl Try.func29 (by kernel_rfl) rfl #[.slice A287_2 ((rd_T109 l0 x5_1).f2).length c287_2, .int .i64 (wrap64 ((wrap64 (x1_1 + 1)) + 1))] rfl (by (try simp only [List.map_toArray, List.map_cons, List.map_nil]); first | done | rfl | (simp only [List.length_drop, List.length_take]; rfl) | (simp only [Int.tmod_eq_emod_of_nonneg (Int.natCast_nonneg _)]; done) | (simp only [Int.tmod_eq_emod_of_nonneg (Int.natCast_nonneg _)]; rfl)) ?_; (with_reducible refine (laws_heldByteS.calls k1 _ _ ((rd_T109 l0 x5_1).f2) (wrap64 ((wrap64 (x1_1 + 1)) + 1)) t290 _ ?side1 ?side2 A7.out).mono ?_); (case side1 => exact cA HR289_2.out); (case side2 => exact HC289_2.out); rintro e w' ⟨rfl, ⟨nd, rfl⟩⟩; refine ⟨_, rfl, ?_⟩))
             go_roundg k1
             case measure => have := HK1.out; omega
             case rel => exact ⟨(t290), (wrap64 (x5_1 + 1)), eqA, eqA, H', ⟨by have := HK1.out; omega⟩, by repeat (first | exact Drawn0.refl _ | apply Drawn0.step)⟩
         · rw [if_neg c6] at H; have c6b0 : (((rd_T109 l0 x5_1).f1) == (wrap64 (x1_1 + 1))) = false := beq_eq_false_iff_ne.mpr c6; have c6b1 : (((rd_T109 l0 x5_1).f1) != (wrap64 (x1_1 + 1))) = true := bne_iff_ne.mpr c6; obtain rfl := Option.some.inj H; have p287 : 0 ≤ (x5_1 : Int) := odA; have q287 : x5_1 < (l0.length : Int) := odA; obtain ⟨ad287, A287_2, c287_2, e287, hx287_0, hx287_1, hx287_2, hl287_2, hi287_2⟩ := at_T109 HR0.out x5_1 p287 q287
           cases e287
           have HR287_2 := Aside0.mk hi287_2; have HC287_2 := Aside0.mk hl287_2; clear hi287_2 hl287_2; replace p287 := eq_true p287; replace q287 := eq_true q287; have p288 : 0 ≤ (x5_1 : Int) := odA; have q288 : x5_1 < (l0.length : Int) := odA; obtain ⟨ad288, A288_2, c288_2, e288, hx288_0, hx288_1, hx288_2, hl288_2, hi288_2⟩ := at_T109 HR0.out x5_1 p288 q288; obtain rfl : ad287 = ad288 := (by injection e288); have HR288_2 := Aside0.mk hi288_2; have HC288_2 := Aside0.mk hl288_2; clear hi288_2 hl288_2; replace p288 := eq_true p288; replace q288 := eq_true q288; have ea_ := Option.some.inj (hx287_2.symm.trans hx288_2); injection ea_ with ea_ en_ ec_
           subst ea_; subst ec_; clear en_; go_wp2
           go_ret
           exact ⟨by first | rfl | (simp; done) | (simp [*]; done), by repeat (first | exact Drawn0.refl _ | apply Drawn0.step)⟩
       · rw [if_neg c5] at H; have c5b0 : (((rd_T109 l0 x5_1).f0) == x1_1) = false := beq_eq_false_iff_ne.mpr c5; have c5b1 : (((rd_T109 l0 x5_1).f0) != x1_1) = true := bne_iff_ne.mpr c5; obtain rfl := Option.some.inj H; have p287 : 0 ≤ (x5_1 : Int) := odA; have q287 : x5_1 < (l0.length : Int) := odA; obtain ⟨ad287, A287_2, c287_2, e287, hx287_0, hx287_1, hx287_2, hl287_2, hi287_2⟩ := at_T109 HR0.out x5_1 p287 q287
         cases e287
         have HR287_2 := Aside0.mk hi287_2; have HC287_2 := Aside0.mk hl287_2; clear hi287_2 hl287_2; replace p287 := eq_true p287; replace q287 := eq_true q287; go_wp2
         go_ret
         exact ⟨by first | rfl | (simp; done) | (simp [*]; done), by repeat (first | exact Drawn0.refl _ | apply Drawn0.step)⟩
     · rw [if_neg c4] at H; exact absurd H (by simp)
   · rw [if_neg c3] at H; have c3b0 := decide_eq_false c3; clear c3; obtain rfl := Option.some.inj H; go_wp2
     go_ret
     exact ⟨by first | rfl | (simp; done) | (simp [*]; done), by repeat (first | exact Drawn0.refl _ | apply Drawn0.step)⟩

end Go.Proofs.Ytbojabmpcfclhaa.PFnExactFeed

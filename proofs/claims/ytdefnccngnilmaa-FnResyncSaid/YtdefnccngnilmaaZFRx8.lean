-- Written by a program of this session (the print of the kit with contracts of this session's own added)
import Derived.Test.YtdefnccngnilmaaZFRx7
namespace Go.Proofs.Ytdefnccngnilmaa.PFnResync
open Go.RowKit Go.Proofs.YtdefnccngnilmaaW.PrintWords Go.Proofs.YtdefnccngnilmaaW.PrintLast Go.Proofs.YtdefnccngnilmaaW.PrintMore Go.Proofs.YtdefnccngnilmaaW.PrintPack
attribute [local go_sem] max2_int min2_int max_two min_two max_three min_three max_four min_four   -- for this text's walks alone
set_option linter.unusedVariables false
set_option linter.unusedSimpArgs false

/-! ### spec_EvalPoly: function 153 -/
def spec_EvalPoly.l0 : Nat → Int → List Int → Int → Int → Int → Option (Int)
 | 0, _, _, _, _, _ => none
 | k + 1, x0, x1, x2, x7, x8 => if x8 < (x1.length : Int) then (if 0 ≤ x8 then ((spec_Power.f k x0 x2 x8).bind fun t379 => ((spec_Mul.f x0 (rd x1 x8) t379).bind fun t380 => ((spec_Add.f x0 x7 t380).bind fun t381 => (spec_EvalPoly.l0 k x0 x1 x2 t381 (wrap64 (x8 + 1)))))) else (none)) else (some x7)
def spec_EvalPoly.f (k : Nat) (a0 : Int) (l1 : List Int) (a2 : Int) : Option (Int) := (spec_PolyOk.f k a0 l1).bind fun t377 => (if t377 = true then (spec_EvalPoly.l0 k a0 l1 a2 0 0) else (some (-1)))
theorem spec_EvalPoly.mono_l : ∀ k, (∀ y0 y1 y2 y3 y4, LeO (spec_EvalPoly.l0 k y0 y1 y2 y3 y4) (spec_EvalPoly.l0 (k + 1) y0 y1 y2 y3 y4))
 | 0 => fun _ _ _ _ _ r h => by simp [spec_EvalPoly.l0] at h
 | k + 1 => by
  have ih0 := spec_EvalPoly.mono_l k
  · intro y0 y1 y2 y3 y4; unfold spec_EvalPoly.l0; exact xq102
theorem spec_EvalPoly.mono : ∀ a0 a1 a2 k, LeO (spec_EvalPoly.f k a0 a1 a2) (spec_EvalPoly.f (k + 1) a0 a1 a2) := by
 intro a0 a1 a2 k; have ih0 := spec_EvalPoly.mono_l k
 unfold spec_EvalPoly.f
 exact xq102
set_option maxHeartbeats 8000000 in
set_option maxRecDepth 100000 in
theorem spec_EvalPoly.calls (k : Nat) (a0 : Int) (A1 : Option Addr) (c1 : Nat) (l1 : List Int) (a2 : Int) (r : Int) (w : World) (hr1 : Kd.C (Kd.int .i64) w A1 l1.length l1) (hc1 : l1.length ≤ c1) (h : spec_EvalPoly.f k a0 l1 a2 = some r) :
 Calls Try.prog 153 #[.int .i64 a0, .slice A1 l1.length c1, .int .i64 a2] w fun e w' => e = .returned (.int .i64 r) ∧ Drawn0 w w' := by
 have HR1 := ak hr1; have HC1 := ak hc1; clear hr1 hc1; have H : ((spec_PolyOk.f k a0 l1).bind fun t377 => (if t377 = true then (spec_EvalPoly.l0 k a0 l1 a2 0 0) else (some (-1)))) = some r := h; clear h; replace H := Option.bind_eq_some_iff.mp H; obtain ⟨t377, A40, H⟩ := H; (try dsimp only at H); have A4 := ak A40; clear A40
 by_cases c5 : t377 = true; rotate_left
 · replace c5 := Bool.eq_false_iff.mpr c5; subst c5; have H1 : (some (-1)) = some r := by rw [if_neg (show ¬ (false = true) by decide)] at H; exact H
   clear H; have H := H1; clear H1; obtain rfl := Option.some.inj H; go_enter Try.func153, Try.ntmps153
   go_wp2_with (first | (go_at_call 155; (with_reducible refine (spec_PolyOk.calls k a0 _ _ l1 false _ ?side1 ?side2 A4.out).mono ?_); (case side1 => exact cA HR1.out); (case side2 => exact HC1.out); rintro e w' ⟨rfl, ⟨nd, rfl⟩⟩; (try first | exact ⟨rfl, _, World.drewN_drewN _ _ _⟩ | exact ⟨rfl, _, Eq.trans (World.drewN_drewN _ _ _) (congrArg (World.drewN _) (Nat.add_assoc _ _ _))⟩)))
   repeat (go_quiet (first | (go_at_call 155; (with_reducible refine (spec_PolyOk.calls k a0 _ _ l1 false _ ?side1 ?side2 A4.out).mono ?_); (case side1 => exact cA HR1.out); (case side2 => exact HC1.out); rintro e w' ⟨rfl, ⟨nd, rfl⟩⟩; (try first | exact ⟨rfl, _, World.drewN_drewN _ _ _⟩ | exact ⟨rfl, _, Eq.trans (World.drewN_drewN _ _ _) (congrArg (World.drewN _) (Nat.add_assoc _ _ _))⟩))); try go_wp2_with (first | (go_at_call 155; (with_reducible refine (spec_PolyOk.calls k a0 _ _ l1 false _ ?side1 ?side2 A4.out).mono ?_); (case side1 => exact cA HR1.out); (case side2 => exact HC1.out); rintro e w' ⟨rfl, ⟨nd, rfl⟩⟩; (try first | exact ⟨rfl, _, World.drewN_drewN _ _ _⟩ | exact ⟨rfl, _, Eq.trans (World.drewN_drewN _ _ _) (congrArg (World.drewN _) (Nat.add_assoc _ _ _))⟩))))
   go_ret
   exact ⟨xq8, xq5⟩
 subst c5; have H1 : (spec_EvalPoly.l0 k a0 l1 a2 0 0) = some r := by rw [if_pos rfl] at H; exact H
 clear H; have H := H1; clear H1; have H' := ak H; clear H; go_enter Try.func153, Try.ntmps153
 go_wp2_with (first | (go_at_call 155; (with_reducible refine (spec_PolyOk.calls k a0 _ _ l1 true _ ?side1 ?side2 A4.out).mono ?_); (case side1 => exact cA HR1.out); (case side2 => exact HC1.out); rintro e w' ⟨rfl, ⟨nd, rfl⟩⟩; (try first | exact ⟨rfl, _, World.drewN_drewN _ _ _⟩ | exact ⟨rfl, _, Eq.trans (World.drewN_drewN _ _ _) (congrArg (World.drewN _) (Nat.add_assoc _ _ _))⟩)))
 repeat (go_quiet (first | (go_at_call 155; (with_reducible refine (spec_PolyOk.calls k a0 _ _ l1 true _ ?side1 ?side2 A4.out).mono ?_); (case side1 => exact cA HR1.out); (case side2 => exact HC1.out); rintro e w' ⟨rfl, ⟨nd, rfl⟩⟩; (try first | exact ⟨rfl, _, World.drewN_drewN _ _ _⟩ | exact ⟨rfl, _, Eq.trans (World.drewN_drewN _ _ _) (congrArg (World.drewN _) (Nat.add_assoc _ _ _))⟩))); try go_wp2_with (first | (go_at_call 155; (with_reducible refine (spec_PolyOk.calls k a0 _ _ l1 true _ ?side1 ?side2 A4.out).mono ?_); (case side1 => exact cA HR1.out); (case side2 => exact HC1.out); rintro e w' ⟨rfl, ⟨nd, rfl⟩⟩; (try first | exact ⟨rfl, _, World.drewN_drewN _ _ _⟩ | exact ⟨rfl, _, Eq.trans (World.drewN_drewN _ _ _) (congrArg (World.drewN _) (Nat.add_assoc _ _ _))⟩))))
 go_loopg [7, 8] k (fun kq v7 v8 w' => ∃ (x7_1 : Int) (x8_1 : Int), v7 = .int .i64 x7_1 ∧ v8 = .int .i64 x8_1 ∧ Aside0 (spec_EvalPoly.l0 kq a0 l1 a2 x7_1 x8_1 = some r) ∧ Aside0 (kq ≤ k) ∧ Drawn0 w w')
 case atStart => exact ⟨(0), (0), eqA, eqA, H', ⟨Nat.le_refl _⟩, xq5⟩
 case round =>
  clear H'; obtain ⟨x7_1, x8_1, rfl, rfl, HA, HK1, ⟨m1, rfl⟩⟩ := hrel
  cases gk with
  | zero => exact absurd HA.out (by simp [spec_EvalPoly.l0])
  | succ k1 =>
   have H := HA.out; clear HA; simp only [spec_EvalPoly.l0] at H
   by_cases c6 : x8_1 < (l1.length : Int); rotate_left
   · rw [if_neg c6] at H; have c6b0 := decide_eq_false c6; clear c6; obtain rfl := Option.some.inj H; go_wp2
     repeat (go_quiet (fail); try go_wp2)
     go_ret
     exact ⟨xq8, xq5⟩
   rw [if_pos c6] at H; have c6b0 := decide_eq_true c6; clear c6
   by_cases c7 : 0 ≤ x8_1; rotate_left
   · rw [if_neg c7] at H; exact absurd H (by simp)
   rw [if_pos c7] at H; have c7b0 := decide_eq_true c7; clear c7; replace H := Option.bind_eq_some_iff.mp H; obtain ⟨t379, A80, H⟩ := H; (try dsimp only at H); have A8 := ak A80; clear A80; replace H := Option.bind_eq_some_iff.mp H; obtain ⟨t380, A90, H⟩ := H; (try dsimp only at H); have A9 := ak A90; clear A90; replace H := Option.bind_eq_some_iff.mp H; obtain ⟨t381, A100, H⟩ := H; (try dsimp only at H); have A10 := ak A100; clear A100; have H' := ak H; clear H; have p378 : 0 ≤ (x8_1 : Int) := odA; have q378 : x8_1 < (l1.length : Int) := odA; obtain ⟨ad378, e378, hx378_0⟩ := Kd.at_int HR1.out x8_1 p378 q378
   cases e378
   replace p378 := eq_true p378; replace q378 := eq_true q378; go_wp2_with (first | (go_at_call 106; (with_reducible refine (spec_Power.calls k1 a0 a2 x8_1 t379 _ A8.out).mono ?_); rintro e w' ⟨rfl, ⟨nd, rfl⟩⟩; (try first | exact ⟨rfl, _, World.drewN_drewN _ _ _⟩ | exact ⟨rfl, _, Eq.trans (World.drewN_drewN _ _ _) (congrArg (World.drewN _) (Nat.add_assoc _ _ _))⟩)) | (go_at_call 66; (with_reducible refine (spec_Mul.calls a0 (rd l1 x8_1) t379 t380 _ A9.out).mono ?_); rintro e w' ⟨rfl, ⟨nd, rfl⟩⟩; (try first | exact ⟨rfl, _, World.drewN_drewN _ _ _⟩ | exact ⟨rfl, _, Eq.trans (World.drewN_drewN _ _ _) (congrArg (World.drewN _) (Nat.add_assoc _ _ _))⟩)) | (go_at_call 156; (with_reducible refine (spec_Add.calls a0 x7_1 t380 t381 _ A10.out).mono ?_); rintro e w' ⟨rfl, ⟨nd, rfl⟩⟩; (try first | exact ⟨rfl, _, World.drewN_drewN _ _ _⟩ | exact ⟨rfl, _, Eq.trans (World.drewN_drewN _ _ _) (congrArg (World.drewN _) (Nat.add_assoc _ _ _))⟩)))
   repeat (go_quiet (first | (go_at_call 106; (with_reducible refine (spec_Power.calls k1 a0 a2 x8_1 t379 _ A8.out).mono ?_); rintro e w' ⟨rfl, ⟨nd, rfl⟩⟩; (try first | exact ⟨rfl, _, World.drewN_drewN _ _ _⟩ | exact ⟨rfl, _, Eq.trans (World.drewN_drewN _ _ _) (congrArg (World.drewN _) (Nat.add_assoc _ _ _))⟩)) | (go_at_call 66; (with_reducible refine (spec_Mul.calls a0 (rd l1 x8_1) t379 t380 _ A9.out).mono ?_); rintro e w' ⟨rfl, ⟨nd, rfl⟩⟩; (try first | exact ⟨rfl, _, World.drewN_drewN _ _ _⟩ | exact ⟨rfl, _, Eq.trans (World.drewN_drewN _ _ _) (congrArg (World.drewN _) (Nat.add_assoc _ _ _))⟩)) | (go_at_call 156; (with_reducible refine (spec_Add.calls a0 x7_1 t380 t381 _ A10.out).mono ?_); rintro e w' ⟨rfl, ⟨nd, rfl⟩⟩; (try first | exact ⟨rfl, _, World.drewN_drewN _ _ _⟩ | exact ⟨rfl, _, Eq.trans (World.drewN_drewN _ _ _) (congrArg (World.drewN _) (Nat.add_assoc _ _ _))⟩))); try go_wp2_with (first | (go_at_call 106; (with_reducible refine (spec_Power.calls k1 a0 a2 x8_1 t379 _ A8.out).mono ?_); rintro e w' ⟨rfl, ⟨nd, rfl⟩⟩; (try first | exact ⟨rfl, _, World.drewN_drewN _ _ _⟩ | exact ⟨rfl, _, Eq.trans (World.drewN_drewN _ _ _) (congrArg (World.drewN _) (Nat.add_assoc _ _ _))⟩)) | (go_at_call 66; (with_reducible refine (spec_Mul.calls a0 (rd l1 x8_1) t379 t380 _ A9.out).mono ?_); rintro e w' ⟨rfl, ⟨nd, rfl⟩⟩; (try first | exact ⟨rfl, _, World.drewN_drewN _ _ _⟩ | exact ⟨rfl, _, Eq.trans (World.drewN_drewN _ _ _) (congrArg (World.drewN _) (Nat.add_assoc _ _ _))⟩)) | (go_at_call 156; (with_reducible refine (spec_Add.calls a0 x7_1 t380 t381 _ A10.out).mono ?_); rintro e w' ⟨rfl, ⟨nd, rfl⟩⟩; (try first | exact ⟨rfl, _, World.drewN_drewN _ _ _⟩ | exact ⟨rfl, _, Eq.trans (World.drewN_drewN _ _ _) (congrArg (World.drewN _) (Nat.add_assoc _ _ _))⟩))))
   go_roundg k1
   case measure => have := HK1.out; omega
   case rel => exact ⟨(t381), (wrap64 (x8_1 + 1)), eqA, eqA, H', ⟨xq14⟩, xq5⟩

/-! ### spec_EncodeWord: function 151 -/
mutual
def spec_EncodeWord.j0 : Nat → Int → List Int → List Int → List Int → Bool → Option (List Int)
 | 0, _, _, _, _, _ => none
 | k + 1, x0, x1, x2, x7, x21 => if x21 = true then (some ([] : List Int)) else (spec_EncodeWord.l0 k x0 x1 x2 x7 0)
def spec_EncodeWord.l0 : Nat → Int → List Int → List Int → List Int → Int → Option (List Int)
 | 0, _, _, _, _, _ => none
 | k + 1, x0, x1, x2, x7, x8 => if x8 < (x1.length : Int) then ((spec_l03Cut.f k x2).bind fun t387 => (if 0 ≤ x8 then ((spec_EvalPoly.f k x0 t387 (rd x1 x8)).bind fun t391 => (if x7.length < 17592186044416 then (spec_EncodeWord.l0 k x0 x1 x2 (x7 ++ [t391]) (wrap64 (x8 + 1))) else (none))) else (none))) else (some x7)
end
def spec_EncodeWord.f (k : Nat) (a0 : Int) (l1 : List Int) (l2 : List Int) : Option (List Int) := (some (([] : List Int) : List Int)).bind fun y382 => ((spec_l07Code.f k a0 l1 (l2.length : Int)).bind fun t385 => (if t385 = true then ((spec_l03Elements.f k a0 l2).bind fun t386 => (spec_EncodeWord.j0 k a0 l1 l2 y382 (!t386))) else (spec_EncodeWord.j0 k a0 l1 l2 y382 true)))
theorem spec_EncodeWord.mono_l : ∀ k, (∀ y0 y1 y2 y3 y4, LeO (spec_EncodeWord.j0 k y0 y1 y2 y3 y4) (spec_EncodeWord.j0 (k + 1) y0 y1 y2 y3 y4)) ∧ (∀ y0 y1 y2 y3 y4, LeO (spec_EncodeWord.l0 k y0 y1 y2 y3 y4) (spec_EncodeWord.l0 (k + 1) y0 y1 y2 y3 y4))
 | 0 => ⟨fun _ _ _ _ _ r h => by simp [spec_EncodeWord.j0] at h, fun _ _ _ _ _ r h => by simp [spec_EncodeWord.l0] at h⟩
 | k + 1 => by
  obtain ⟨ih0, ih1⟩ := spec_EncodeWord.mono_l k; refine ⟨?_, ?_⟩
  · intro y0 y1 y2 y3 y4; unfold spec_EncodeWord.j0; exact xq68
  · intro y0 y1 y2 y3 y4; unfold spec_EncodeWord.l0; exact xq68
theorem spec_EncodeWord.mono : ∀ a0 a1 a2 k, LeO (spec_EncodeWord.f k a0 a1 a2) (spec_EncodeWord.f (k + 1) a0 a1 a2) := by
 intro a0 a1 a2 k; obtain ⟨ih0, ih1⟩ := spec_EncodeWord.mono_l k
 unfold spec_EncodeWord.f
 exact xq68
def spec_EncodeWord.T7 : Bool × List (List Nat × List Nat) := (true, [([], []), ([], []), ([], []), ([2], [2]), ([], []), ([], []), ([4, 5], [4, 5]), ([6], [6]), ([1, 3, 7, 3], [1, 3, 7]), ([8], [8]), ([0, 9, 8], [0, 9]), ([10, 10, 0, 1, 2, 3, 4, 5, 6, 7, 8, 9, 10], [0, 10])])
def spec_EncodeWord.B7 : List Nat := [0, 0, 0, 4, 0, 0, 48, 112, 254, 510, 1023, 2047]
theorem spec_EncodeWord.tab7 : rtab .any (opsOf Try.f151 7) = spec_EncodeWord.T7 := by kernel_rfl
theorem spec_EncodeWord.bits7 : waitsOk spec_EncodeWord.T7.2 spec_EncodeWord.B7 = true := by kernel_rfl
set_option maxHeartbeats 8000000 in
set_option maxRecDepth 100000 in
theorem spec_EncodeWord.calls (k : Nat) (a0 : Int) (A1 : Option Addr) (c1 : Nat) (l1 : List Int) (A2 : Option Addr) (c2 : Nat) (l2 : List Int) (r : List Int) (w : World) (hr1 : Kd.C (Kd.int .i64) w A1 l1.length l1) (hc1 : l1.length ≤ c1) (hr2 : Kd.C (Kd.int .i64) w A2 l2.length l2) (hc2 : l2.length ≤ c2) (h : spec_EncodeWord.f k a0 l1 l2 = some r) :
 Calls Try.prog 151 #[.int .i64 a0, .slice A1 l1.length c1, .slice A2 l2.length c2] w fun e w' => ∃ v0_ : Value, e = .returned (v0_) ∧ Kd.R (Kd.int .i64) 3 w' w.heap.size (fun _ => True) v0_ r ∧ Below w.heap.size w w' := by
 have HR1 := ak hr1; have HC1 := ak hc1; clear hr1 hc1; have HR2 := ak hr2; have HC2 := ak hc2; clear hr2 hc2; have HB := ak (Below.refl w.heap.size w); have H : ((some (([] : List Int) : List Int)).bind fun y382 => ((spec_l07Code.f k a0 l1 (l2.length : Int)).bind fun t385 => (if t385 = true then ((spec_l03Elements.f k a0 l2).bind fun t386 => (spec_EncodeWord.j0 k a0 l1 l2 y382 (!t386))) else (spec_EncodeWord.j0 k a0 l1 l2 y382 true)))) = some r := h; clear h; obtain ⟨y382, hyq⟩ : ∃ y_ : List Int, y_ = (([] : List Int)) := ⟨_, rfl⟩; replace H : ((spec_l07Code.f k a0 l1 (l2.length : Int)).bind fun t385 => (if t385 = true then ((spec_l03Elements.f k a0 l2).bind fun t386 => (spec_EncodeWord.j0 k a0 l1 l2 y382 (!t386))) else (spec_EncodeWord.j0 k a0 l1 l2 y382 true))) = some r := by first | (rw [hyq]; with_reducible exact H) | (have H2_ := (Option.bind_some _ _).symm.trans H; rw [hyq]; with_reducible exact H2_) | (have H2_ := (Option.bind_some _ _).symm.trans H; with_reducible exact H2_) | with_reducible exact H | (rw [hyq]; exact H) | exact H
 have Ny382 := ak hyq; clear hyq; have HC4 := ak H; clear H; go_enter Try.func151, Try.ntmps151
 go_upto_region 2 with (first | ((with_reducible refine gate_dst (N := 9) rfl ?_); refine Kd.R_lit (Kd.int .i64) _ 3 ?hg (N := 9) ?hd (xs := ([] : List Int)) (inner := []) (ok := fun _ => True) (okp := fun _ => True) ?hr ?hp (fun _ hk => hk) trivial (Below.refl _ _) (Nat.le_refl _) (by simp) ?_; (case hd => rfl); (case hg => rfl); (case hr => exact xq9); (case hp => exact (Reps.none _ _)); intro v383 w5 ho6 hb hg_ hnew_; clear hg_ hnew_; (first | rw [← Ny382.out] at ho6 | (simp only [Int.reduceToNat] at ho6; rw [← Ny382.out] at ho6)); have HO384 := rL ho6; replace HB := bS hb; clear hb ho6))
 (try simp only [Act.put, sa, sb, sc])
 go_cut [21] (fun v21 wc => ∃ (kq : Nat) (x21_3 : Bool), v21 = .bool x21_3 ∧ Aside0 (spec_EncodeWord.j0 kq a0 l1 l2 y382 x21_3 = some r) ∧ Aside0 (kq ≤ k) ∧ Aside0 (Kd.R (Kd.int .i64) 3 wc w.heap.size (fun _ => True) v383 y382) ∧ Aside0 (Below w.heap.size w wc))
 case first =>
  have H := HC4.out; clear HC4; replace H := Option.bind_eq_some_iff.mp H; obtain ⟨t385, A70, H⟩ := H; (try dsimp only at H); have A7 := ak A70; clear A70
  by_cases c8 : t385 = true; rotate_left
  · replace c8 := Bool.eq_false_iff.mpr c8; subst c8; have H1 : (spec_EncodeWord.j0 k a0 l1 l2 y382 true) = some r := by rw [if_neg (show ¬ (false = true) by decide)] at H; exact H
    clear H; have H := H1; clear H1; have H' := ak H; clear H; go_wp2_with (first | ((with_reducible refine gate_callee (f := 152) rfl ?_); refine goB 14 Try.func152 #[.int .i64 a0, .slice A1 l1.length c1, .int .i64 (l2.length : Int)] rfl ?_; (with_reducible refine (spec_l07Code.calls k a0 _ _ l1 (l2.length : Int) false _ ?side1 ?side2 A7.out).mono ?_); (case side1 => exact cA (Kd.C_below HR1.out HB.out)); (case side2 => exact HC1.out); rintro e w' ⟨rfl, ⟨nd, rfl⟩⟩; refine ⟨_, rfl, ?_⟩))
    go_meet
    case rel => exact ⟨_, (true), eqA, H', ⟨xq15⟩, ⟨rA HO384⟩, ⟨belA⟩⟩
  subst c8; have H1 : ((spec_l03Elements.f k a0 l2).bind fun t386 => (spec_EncodeWord.j0 k a0 l1 l2 y382 (!t386))) = some r := by rw [if_pos rfl] at H; exact H
  clear H; have H := H1; clear H1; replace H := Option.bind_eq_some_iff.mp H; obtain ⟨t386, A90, H⟩ := H; (try dsimp only at H); have A9 := ak A90; clear A90; have H' := ak H; clear H; go_wp2_with (first | ((with_reducible refine gate_callee (f := 152) rfl ?_); refine goB 14 Try.func152 #[.int .i64 a0, .slice A1 l1.length c1, .int .i64 (l2.length : Int)] rfl ?_; (with_reducible refine (spec_l07Code.calls k a0 _ _ l1 (l2.length : Int) true _ ?side1 ?side2 A7.out).mono ?_); (case side1 => exact cA (Kd.C_below HR1.out HB.out)); (case side2 => exact HC1.out); rintro e w' ⟨rfl, ⟨nd, rfl⟩⟩; refine ⟨_, rfl, ?_⟩) | (go_at_call 65; (with_reducible refine (spec_l03Elements.calls k a0 _ _ l2 t386 _ ?side1 ?side2 A9.out).mono ?_); (case side1 => exact cA (Kd.C_below HR2.out belA)); (case side2 => exact HC2.out); rintro e w' ⟨rfl, ⟨nd, rfl⟩⟩))
  go_meet
  case rel => exact ⟨_, (!t386), eqA, H', ⟨xq15⟩, ⟨rA HO384⟩, ⟨belA⟩⟩
 case rest =>
  clear HC4; obtain ⟨kq, x21_3, rfl, HA, HJ3, HO_7, HB⟩ := hcut
  cases kq with
  | zero => exact absurd HA.out (by simp [spec_EncodeWord.j0])
  | succ kj3 =>
   have H := HA.out; clear HA; simp only [spec_EncodeWord.j0] at H
   by_cases c10 : x21_3 = true
   · subst c10; have H1 : (some ([] : List Int)) = some r := by rw [if_pos rfl] at H; exact H
     clear H; have H := H1; clear H1; obtain rfl := Option.some.inj H; go_wp2
     go_ret
     exact ⟨_, xq4, xq19, belA⟩
   replace c10 := Bool.eq_false_iff.mpr c10; subst c10; have H1 : (spec_EncodeWord.l0 kj3 a0 l1 l2 y382 0) = some r := by rw [if_neg (show ¬ (false = true) by decide)] at H; exact H
   clear H; have H := H1; clear H1; have H' := ak H; clear H; go_wp2
   go_loopg [7, 8] kj3 (fun kq v7 v8 w' => ∃ (x7_2 : List Int) (x8_2 : Int), v8 = .int .i64 x8_2 ∧ Aside0 (spec_EncodeWord.l0 kq a0 l1 l2 x7_2 x8_2 = some r) ∧ Aside0 (kq ≤ kj3) ∧ Aside0 (Kd.R (Kd.int .i64) 3 w' w.heap.size (fun _ => True) v7 x7_2) ∧ Aside0 (Below w.heap.size w w'))
   case atStart => exact ⟨(y382), (0), eqA, H', ⟨Nat.le_refl _⟩, ⟨rA HO_7⟩, ⟨belA⟩⟩
   case round =>
    clear H'; obtain ⟨x7_2, x8_2, rfl, HA, HK2, HO_7, HB⟩ := hrel
    cases gk with
    | zero => exact absurd HA.out (by simp [spec_EncodeWord.l0])
    | succ k2 =>
     have H := HA.out; clear HA; simp only [spec_EncodeWord.l0] at H
     by_cases c11 : x8_2 < (l1.length : Int); rotate_left
     · rw [if_neg c11] at H; have c11b0 := decide_eq_false c11; clear c11; obtain rfl := Option.some.inj H; go_wp2
       go_ret
       exact ⟨_, xq4, xq63, belA⟩
     rw [if_pos c11] at H; have c11b0 := decide_eq_true c11; clear c11; replace H := Option.bind_eq_some_iff.mp H; obtain ⟨t387, A120, H⟩ := H; (try dsimp only at H); have A12 := ak A120; clear A120
     by_cases c13 : 0 ≤ x8_2; rotate_left
     · rw [if_neg c13] at H; exact absurd H (by simp)
     rw [if_pos c13] at H; have c13b0 := decide_eq_true c13; clear c13; replace H := Option.bind_eq_some_iff.mp H; obtain ⟨t391, A140, H⟩ := H; (try dsimp only at H); have A14 := ak A140; clear A140
     by_cases c15 : x7_2.length < 17592186044416; rotate_left
     · rw [if_neg c15] at H; exact absurd H (by simp)
     rw [if_pos c15] at H; have LMc15 := ak c15; clear c15; obtain ⟨y392, hyq⟩ : ∃ y_ : List Int, y_ = (x7_2 ++ [t391]) := ⟨_, rfl⟩; replace H : (spec_EncodeWord.l0 k2 a0 l1 l2 y392 (wrap64 (x8_2 + 1))) = some r := by first | (rw [hyq]; with_reducible exact H) | (have H2_ := (Option.bind_some _ _).symm.trans H; rw [hyq]; with_reducible exact H2_) | (have H2_ := (Option.bind_some _ _).symm.trans H; with_reducible exact H2_) | with_reducible exact H | (rw [hyq]; exact H) | exact H
     have Ny392 := ak hyq; clear hyq; have H' := ak H; clear H; try go_wp2
     replace HO_7 := ak (Kd.R_drew HO_7.out); replace HB := ak (below_drew1 HB.out); have p390 : 0 ≤ (x8_2 : Int) := odA; have q390 : x8_2 < (l1.length : Int) := odA; obtain ⟨ad390, e390, hx390_0⟩ := Kd.at_int HR1.out x8_2 p390 q390; have hw390_0 := hx390_0
     cases e390
     try replace hx390_0 := cB HB hx390_0
     replace p390 := eq_true p390; replace q390 := eq_true q390; refine start_ (n := 12) (S := fun w' => w'.cell? (ad390.add (x8_2).toNat) = some (.int .i64 (rd l1 x8_2))) (ds := []) #[false, false, false, false, false, false, false, false, false, false, false, false] (by kernel_rfl) rfl rfl (((HB.out.cell (World.block_lt_of_cell? w _ hw390_0)).trans hw390_0)) (fun hHeld => ?_); refine with_tabW spec_EncodeWord.tab7 spec_EncodeWord.bits7 (fun HT_ HW_ => ?_)
     generalize wr.drew = w16 at HO_7 HB hx390_0 hHeld ⊢
     refine pure_ (i := 0) (N := some 28) (v := ?_) (a' := ?_) #[true, false, false, false, false, false, false, false, false, false, false, false] rfl rfl (any_of HT_.out (by kernel_rfl)) (fun _ _ _ h => h) (Or.inl ⟨by rfl, ?_⟩) ?_ ?_
     rotate_left
     · intro w'; go_simp
       with_reducible rfl
     rotate_left
     · simp only [Act.put, sa, sb, sc, i64_w, i32_w]
       rfl
     refine pure_ (i := 1) (N := some 29) (v := ?_) (a' := ?_) #[true, true, false, false, false, false, false, false, false, false, false, false] rfl rfl (any_of HT_.out (by kernel_rfl)) (fun _ _ _ h => h) (Or.inl ⟨by rfl, ?_⟩) ?_ ?_
     rotate_left
     · intro w'; go_simp
       with_reducible rfl
     rotate_left
     · simp only [Act.put, sa, sb, sc, i64_w, i32_w]
       rfl
     refine pure_ (i := 2) (N := some 30) (v := ?_) (a' := ?_) #[true, true, true, false, false, false, false, false, false, false, false, false] rfl rfl (any_of HT_.out (by kernel_rfl)) (fun _ _ _ h => h) (Or.inl ⟨by rfl, ?_⟩) ?_ ?_
     rotate_left
     · intro w'; go_simp
       with_reducible rfl
     rotate_left
     · simp only [Act.put, sa, sb, sc, i64_w, i32_w]
       rfl
     refine pure_ (i := 4) (N := some 32) (v := ?_) (a' := ?_) #[true, true, true, false, true, false, false, false, false, false, false, false] rfl rfl (any_of HT_.out (by kernel_rfl)) (fun _ _ _ h => h) (Or.inl ⟨by rfl, ?_⟩) ?_ ?_
     rotate_left
     · intro w'; go_simp
       with_reducible rfl
     rotate_left
     · simp only [Act.put, sa, sb, sc, i64_w, i32_w]
       rfl
     refine pure_ (i := 5) (N := some 33) (v := ?_) (a' := ?_) #[true, true, true, false, true, true, false, false, false, false, false, false] rfl rfl (any_of HT_.out (by kernel_rfl)) (fun _ _ _ h => h) (Or.inl ⟨by rfl, ?_⟩) ?_ ?_
     rotate_left
     · intro w'; go_simp
       with_reducible rfl
     rotate_left
     · simp only [Act.put, sa, sb, sc, i64_w, i32_w]
       rfl
     refine pure_ (i := 6) (N := some 34) (v := ?_) (a' := ?_) #[true, true, true, false, true, true, true, false, false, false, false, false] rfl rfl (any_of HT_.out (by kernel_rfl)) (fun _ _ _ h => h) (Or.inl ⟨by rfl, ?_⟩) ?_ ?_
     rotate_left
     · intro w'; go_simp
       with_reducible rfl
     rotate_left
     · simp only [Act.put, sa, sb, sc, i64_w, i32_w]
       rfl
     refine take_ (i := 7) (N := some 35) (v := ?_) (a' := ?_) #[true, true, true, false, true, true, true, true, false, false, false, false] rfl rfl (take_ofW HT_.out HW_.out (by kernel_rfl)) (fun _ _ _ h => h) (Or.inl ⟨by rfl, ?_⟩) hHeld ?_ ?_
     rotate_left
     · intro w' s0; go_simp
       with_reducible rfl
     rotate_left
     · simp only [Act.put, sa, sb, sc, i64_w, i32_w]
       rfl
     refine one_ (i := 3) (N := some 31) #[true, true, true, true, true, true, true, true, false, false, false, false] rfl rfl (one_of HT_.out (by kernel_rfl)) (by decide) (fun K hK => ?_)
     refine goes_ Try.func143 (by kernel_rfl) rfl #[.slice A2 l2.length c2] (by rfl) rfl rfl xq24 ?_
     with_reducible refine (spec_l03Cut.calls k2 _ _ l2 t387 _ ?side1 ?side2 A12.out).mono ?_
     (case side1 => exact cA (Kd.C_below HR2.out HB.out))
     (case side2 => exact HC2.out)
     rintro e w17 ⟨v388, rfl, ho0, hb⟩
     refine ⟨_, rfl, ?_⟩
     have HO389 := rL (Kd.R_new' ho0 (Kd.R_lt (rF HO_7))); replace HO_7 := ak (Kd.R_elder' (rF HO_7) (Kd.R_base ho0) hb); replace HB := bS hb; (try clear hb ho0); obtain ⟨Ao18, co18, eo18⟩ := Kd.R_slice HO389.out; (first | subst eo18 | (injection eo18 with f1_ f2_ f3_; have f4_ := f1_.symm; have f5_ := f3_.symm; clear f1_ f2_ f3_; subst f4_; subst f5_))
     refine hK.out _ _ (((HB.out.cell (World.block_lt_of_cell? w _ hw390_0)).trans hw390_0)) (fun hHeld => ?_)
     clear hK K; refine norm_ (a' := ?_) ?_ ?_
     rotate_left
     · show Act.put _ (some 31) _ = _
       simp only [Act.put, sa, sb, sc, i64_w, i32_w]
       rfl
     refine one_ (i := 8) (N := some 36) #[true, true, true, true, true, true, true, true, true, false, false, false] rfl rfl (one_of HT_.out (by kernel_rfl)) (by decide) (fun K hK => ?_)
     refine goes_ Try.func153 (by kernel_rfl) rfl #[.int .i64 a0, .slice Ao18 t387.length co18, .int .i64 (rd l1 x8_2)] (by rfl) rfl rfl xq24 ?_
     with_reducible refine (spec_EvalPoly.calls k2 a0 _ _ t387 (rd l1 x8_2) t391 _ ?side1 ?side2 A14.out).mono ?_
     (case side1 => exact cA ((Kd.R_reads' HO389.out).2.2))
     (case side2 => exact (Kd.R_reads' HO389.out).2.1)
     rintro e w' ⟨rfl, ⟨nd, rfl⟩⟩
     refine ⟨_, rfl, ?_⟩
     refine hK.out _ _ (((HB.out.cell (World.block_lt_of_cell? w _ hw390_0)).trans hw390_0)) (fun hHeld => ?_)
     clear hK K; refine norm_ (a' := ?_) ?_ ?_
     rotate_left
     · show Act.put _ (some 36) _ = _
       simp only [Act.put, sa, sb, sc, i64_w, i32_w]
       rfl
     refine one_ (i := 9) (N := some 37) #[true, true, true, true, true, true, true, true, true, true, false, false] rfl rfl (one_of HT_.out (by kernel_rfl)) (by decide) (fun K hK => ?_)
     refine value_ (w1 := ?_) (v := ?_) (by rfl) rfl ?_ ?_
     rotate_left 2
     · go_simp
       constructor
       · rfl
       · rfl
     refine hK.out _ _ ((World.cell?_alloc_lt _ _ _ (World.block_lt_of_cell? _ _ (((HB.out.cell (World.block_lt_of_cell? w _ hw390_0)).trans hw390_0)))).trans (((HB.out.cell (World.block_lt_of_cell? w _ hw390_0)).trans hw390_0))) (fun hHeld => ?_)
     clear hK K; refine norm_ (a' := ?_) ?_ ?_
     rotate_left
     · show Act.put _ (some 37) _ = _
       simp only [Act.put, sa, sb, sc, i64_w, i32_w]
       rfl
     refine one_ (i := 10) (N := some 38) #[true, true, true, true, true, true, true, true, true, true, true, false] rfl rfl (one_of HT_.out (by kernel_rfl)) (by decide) (fun K hK => ?_)
     refine Kd.R_append_step (Kd.int .i64) (w0 := w) w.heap.size (by rfl) (.tmp 28) (.tmp 37) 37 3 (.int .i64 0) 8 rfl Try.underlying37 info3 rfl (by decide) (by omega) u7 x7_2 t391 [.int .i64 t391] (fun k_ => some k_ ≠ (.slice Ao18 t387.length co18 : Value).ownBlock) (fun _ => False) rfl rfl ?aP (fun _ hk => hk.elim) ?aF ?aO ?aB ?aS ?aL ?_
     (case aP => exact rfl)
     (case aB => exact belA)
     (case aF => exact (fun k_ hk => Kd.fresh' (Kd.R_lt (rF HO389)) k_ hk))
     (case aO => exact (rE (Kd.R_mono HO_7.out (fun _ hk => hk.2))))
     (case aS => exact (below_size belA))
     (case aL => have := LMc15.out; omega)
     intro v393 w19 ho hb hg hat; rw [← Ny392.out] at ho; have HO394 := ak ho; replace HO389 := ak (Kd.R_after (ok := (fun _ => True)) (rF HO389) hg hat); replace HB := ak hb; clear HO_7; clear ho hb hg hat; refine hK.out _ _ (((HB.out.cell (World.block_lt_of_cell? w _ hw390_0)).trans hw390_0)) (fun hHeld => ?_)
     clear hK K; refine norm_ (a' := ?_) ?_ ?_
     rotate_left
     · show Act.put _ (some 38) _ = _
       simp only [Act.put, sa, sb, sc, i64_w, i32_w]
       rfl
     refine pure_ (i := 11) (N := some 7) (v := ?_) (a' := ?_) #[true, true, true, true, true, true, true, true, true, true, true, true] rfl rfl (any_of HT_.out (by kernel_rfl)) (fun _ _ _ h => h) (Or.inl ⟨by rfl, ?_⟩) ?_ ?_
     rotate_left
     · intro w'; go_simp
       with_reducible rfl
     rotate_left
     · simp only [Act.put, sa, sb, sc, i64_w, i32_w]
       rfl
     refine done_ (done_of HT_.out (by kernel_rfl)) ?_
     try go_wp2
     go_roundg k2
     case measure => have := HJ3.out; have := HK2.out; omega
     case rel => exact ⟨(y392), (wrap64 (x8_2 + 1)), eqA, H', ⟨by have := HJ3.out; have := HK2.out; omega⟩, ⟨rE (Kd.R_mono HO394.out (fun _ hk => trivial))⟩, ⟨belA⟩⟩

end Go.Proofs.Ytdefnccngnilmaa.PFnResync

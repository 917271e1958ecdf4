-- Written by a program of this session (the print of the kit with contracts of this session's own added)
import Derived.Test.YtdefnccngnilmaaZFEMx3
set_option maxHeartbeats 8000000
set_option maxRecDepth 100000
namespace Go.Proofs.Ytdefnccngnilmaa.PFnExactMakespan
open Go.RowKit Go.Proofs.YtdefnccngnilmaaW.PrintWords Go.Proofs.YtdefnccngnilmaaW.PrintLast Go.Proofs.YtdefnccngnilmaaW.PrintMore Go.Proofs.YtdefnccngnilmaaW.PrintPack Go.Proofs.YtdefnccngnilmaaW.PrintPack
attribute [local go_sem] max2_int min2_int max_two min_two max_three min_three max_four min_four   -- for this text's walks alone
set_option linter.unusedVariables false
set_option linter.unusedSimpArgs false

def spec_Modulus.f (a0 : Int) : Option (Int) := if a0 = 0 then (some 17) else (if a0 = 1 then (some 97) else (if a0 = 2 then (some 193) else (if a0 = 3 then (some 257) else (if a0 = 4 then (some 7681) else (if a0 = 5 then (some 12289) else (if a0 = 6 then (some 998244353) else (if a0 = 7 then (some 469762049) else (if a0 = 8 then (some 1004535809) else (some 0)))))))))
theorem spec_Modulus.calls (a0 : Int) (r : Int) (w : World) (h : spec_Modulus.f a0 = some r) :
 Calls Try.prog 74 #[.int .i64 a0] w fun e w' => e = .returned (.int .i64 r) ∧ Drawn0 w w' := by
 have H : (if a0 = 0 then (some 17) else (if a0 = 1 then (some 97) else (if a0 = 2 then (some 193) else (if a0 = 3 then (some 257) else (if a0 = 4 then (some 7681) else (if a0 = 5 then (some 12289) else (if a0 = 6 then (some 998244353) else (if a0 = 7 then (some 469762049) else (if a0 = 8 then (some 1004535809) else (some 0)))))))))) = some r := h; clear h
 by_cases c2 : a0 = 0
 · rw [if_pos c2] at H; have c2b0 : (a0 == 0) = true := beq_iff_eq.mpr c2; have c2b1 : (a0 != 0) = false := bne_eq_false_iff_eq.mpr c2; clear c2; obtain rfl := Option.some.inj H; go_enter Try.func74, Try.ntmps74
   go_wp2
   go_ret
   exact ⟨xq4, xq3⟩
 rw [if_neg c2] at H; have c2b0 : (a0 == 0) = false := beq_eq_false_iff_ne.mpr c2; have c2b1 : (a0 != 0) = true := bne_iff_ne.mpr c2
 by_cases c3 : a0 = 1
 · rw [if_pos c3] at H; have c3b0 : (a0 == 1) = true := beq_iff_eq.mpr c3; have c3b1 : (a0 != 1) = false := bne_eq_false_iff_eq.mpr c3; clear c3; obtain rfl := Option.some.inj H; go_enter Try.func74, Try.ntmps74
   go_wp2
   go_ret
   exact ⟨xq4, xq3⟩
 rw [if_neg c3] at H; have c3b0 : (a0 == 1) = false := beq_eq_false_iff_ne.mpr c3; have c3b1 : (a0 != 1) = true := bne_iff_ne.mpr c3
 by_cases c4 : a0 = 2
 · rw [if_pos c4] at H; have c4b0 : (a0 == 2) = true := beq_iff_eq.mpr c4; have c4b1 : (a0 != 2) = false := bne_eq_false_iff_eq.mpr c4; clear c4; obtain rfl := Option.some.inj H; go_enter Try.func74, Try.ntmps74
   go_wp2
   go_ret
   exact ⟨xq4, xq3⟩
 rw [if_neg c4] at H; have c4b0 : (a0 == 2) = false := beq_eq_false_iff_ne.mpr c4; have c4b1 : (a0 != 2) = true := bne_iff_ne.mpr c4
 by_cases c5 : a0 = 3
 · rw [if_pos c5] at H; have c5b0 : (a0 == 3) = true := beq_iff_eq.mpr c5; have c5b1 : (a0 != 3) = false := bne_eq_false_iff_eq.mpr c5; clear c5; obtain rfl := Option.some.inj H; go_enter Try.func74, Try.ntmps74
   go_wp2
   go_ret
   exact ⟨xq4, xq3⟩
 rw [if_neg c5] at H; have c5b0 : (a0 == 3) = false := beq_eq_false_iff_ne.mpr c5; have c5b1 : (a0 != 3) = true := bne_iff_ne.mpr c5
 by_cases c6 : a0 = 4
 · rw [if_pos c6] at H; have c6b0 : (a0 == 4) = true := beq_iff_eq.mpr c6; have c6b1 : (a0 != 4) = false := bne_eq_false_iff_eq.mpr c6; clear c6; obtain rfl := Option.some.inj H; go_enter Try.func74, Try.ntmps74
   go_wp2
   go_ret
   exact ⟨xq4, xq3⟩
 rw [if_neg c6] at H; have c6b0 : (a0 == 4) = false := beq_eq_false_iff_ne.mpr c6; have c6b1 : (a0 != 4) = true := bne_iff_ne.mpr c6
 by_cases c7 : a0 = 5
 · rw [if_pos c7] at H; have c7b0 : (a0 == 5) = true := beq_iff_eq.mpr c7; have c7b1 : (a0 != 5) = false := bne_eq_false_iff_eq.mpr c7; clear c7; obtain rfl := Option.some.inj H; go_enter Try.func74, Try.ntmps74
   go_wp2
   go_ret
   exact ⟨xq4, xq3⟩
 rw [if_neg c7] at H; have c7b0 : (a0 == 5) = false := beq_eq_false_iff_ne.mpr c7; have c7b1 : (a0 != 5) = true := bne_iff_ne.mpr c7
 by_cases c8 : a0 = 6
 · rw [if_pos c8] at H; have c8b0 : (a0 == 6) = true := beq_iff_eq.mpr c8; have c8b1 : (a0 != 6) = false := bne_eq_false_iff_eq.mpr c8; clear c8; obtain rfl := Option.some.inj H; go_enter Try.func74, Try.ntmps74
   go_wp2
   go_ret
   exact ⟨xq4, xq3⟩
 rw [if_neg c8] at H; have c8b0 : (a0 == 6) = false := beq_eq_false_iff_ne.mpr c8; have c8b1 : (a0 != 6) = true := bne_iff_ne.mpr c8
 by_cases c9 : a0 = 7
 · rw [if_pos c9] at H; have c9b0 : (a0 == 7) = true := beq_iff_eq.mpr c9; have c9b1 : (a0 != 7) = false := bne_eq_false_iff_eq.mpr c9; clear c9; obtain rfl := Option.some.inj H; go_enter Try.func74, Try.ntmps74
   go_wp2
   go_ret
   exact ⟨xq4, xq3⟩
 rw [if_neg c9] at H; have c9b0 : (a0 == 7) = false := beq_eq_false_iff_ne.mpr c9; have c9b1 : (a0 != 7) = true := bne_iff_ne.mpr c9
 by_cases c10 : a0 = 8; rotate_left
 · rw [if_neg c10] at H; have c10b0 : (a0 == 8) = false := beq_eq_false_iff_ne.mpr c10; have c10b1 : (a0 != 8) = true := bne_iff_ne.mpr c10; obtain rfl := Option.some.inj H; go_enter Try.func74, Try.ntmps74
   go_wp2
   go_ret
   exact ⟨xq4, xq3⟩
 rw [if_pos c10] at H; have c10b0 : (a0 == 8) = true := beq_iff_eq.mpr c10; have c10b1 : (a0 != 8) = false := bne_eq_false_iff_eq.mpr c10; clear c10; obtain rfl := Option.some.inj H; go_enter Try.func74, Try.ntmps74
 go_wp2
 go_ret
 exact ⟨xq4, xq3⟩

def spec_TwoPower.l0 : Nat → Int → Int → Option (Int)
 | 0, _, _ => none
 | k + 1, x4, x5 => if (Int.tmod x5 2) = 0 then (spec_TwoPower.l0 k (wrap64 (x4 + 1)) (wrap64 (Int.tdiv x5 2))) else (some x4)
def spec_TwoPower.f (k : Nat) (a0 : Int) : Option (Int) := (spec_Modulus.f a0).bind fun t128 => (if t128 = 0 then (some (-1)) else (spec_TwoPower.l0 k 0 (wrap64 (t128 - 1))))
theorem spec_TwoPower.mono_l : ∀ k, (∀ y0 y1, LeO (spec_TwoPower.l0 k y0 y1) (spec_TwoPower.l0 (k + 1) y0 y1))
 | 0 => fun _ _ r h => by simp [spec_TwoPower.l0] at h
 | k + 1 => by
  have ih0 := spec_TwoPower.mono_l k
  · intro y0 y1; unfold spec_TwoPower.l0; exact xq57
theorem spec_TwoPower.mono : ∀ a0 k, LeO (spec_TwoPower.f k a0) (spec_TwoPower.f (k + 1) a0) := by
 intro a0 k; have ih0 := spec_TwoPower.mono_l k
 unfold spec_TwoPower.f
 exact xq57
theorem spec_TwoPower.calls (k : Nat) (a0 : Int) (r : Int) (w : World) (h : spec_TwoPower.f k a0 = some r) :
 Calls Try.prog 64 #[.int .i64 a0] w fun e w' => e = .returned (.int .i64 r) ∧ Drawn0 w w' := by
 have H : ((spec_Modulus.f a0).bind fun t128 => (if t128 = 0 then (some (-1)) else (spec_TwoPower.l0 k 0 (wrap64 (t128 - 1))))) = some r := h; clear h; replace H := Option.bind_eq_some_iff.mp H; obtain ⟨t128, A20, H⟩ := H; (try dsimp only at H); have A2 := ak A20; clear A20
 by_cases c3 : t128 = 0
 · rw [if_pos c3] at H; have c3b0 : (t128 == 0) = true := beq_iff_eq.mpr c3; have c3b1 : (t128 != 0) = false := bne_eq_false_iff_eq.mpr c3; clear c3; obtain rfl := Option.some.inj H; go_enter Try.func64, Try.ntmps64
   go_wp2_with (first | ((with_reducible refine gate_callee (f := 74) rfl ?_); refine goB 7 Try.func74 #[.int .i64 a0] rfl ?_; (with_reducible refine (spec_Modulus.calls a0 t128 _ A2.out).mono ?_); rintro e w' ⟨rfl, ⟨nd, rfl⟩⟩; refine ⟨_, rfl, ?_⟩))
   go_ret
   exact ⟨xq4, xq3⟩
 rw [if_neg c3] at H; have c3b0 : (t128 == 0) = false := beq_eq_false_iff_ne.mpr c3; have c3b1 : (t128 != 0) = true := bne_iff_ne.mpr c3; have H' := ak H; clear H; go_enter Try.func64, Try.ntmps64
 go_wp2_with (first | ((with_reducible refine gate_callee (f := 74) rfl ?_); refine goB 7 Try.func74 #[.int .i64 a0] rfl ?_; (with_reducible refine (spec_Modulus.calls a0 t128 _ A2.out).mono ?_); rintro e w' ⟨rfl, ⟨nd, rfl⟩⟩; refine ⟨_, rfl, ?_⟩))
 go_loopg [4, 5] k (fun kq v4 v5 w' => ∃ (x4_1 : Int) (x5_1 : Int), v4 = .int .i64 x4_1 ∧ v5 = .int .i64 x5_1 ∧ Aside0 (spec_TwoPower.l0 kq x4_1 x5_1 = some r) ∧ Aside0 (kq ≤ k) ∧ Drawn0 w w')
 case atStart => exact ⟨(0), (wrap64 (t128 - 1)), eqA, eqA, H', ⟨Nat.le_refl _⟩, xq3⟩
 case round =>
  clear H'; obtain ⟨x4_1, x5_1, rfl, rfl, HA, HK1, ⟨m1, rfl⟩⟩ := hrel
  cases gk with
  | zero => exact absurd HA.out (by simp [spec_TwoPower.l0])
  | succ k1 =>
   have H := HA.out; clear HA; simp only [spec_TwoPower.l0] at H
   by_cases c4 : (Int.tmod x5_1 2) = 0; rotate_left
   · rw [if_neg c4] at H; have c4b0 : ((Int.tmod x5_1 2) == 0) = false := beq_eq_false_iff_ne.mpr c4; have c4b1 : ((Int.tmod x5_1 2) != 0) = true := bne_iff_ne.mpr c4; obtain rfl := Option.some.inj H; go_wp2
     go_ret
     exact ⟨xq4, xq3⟩
   rw [if_pos c4] at H; have c4b0 : ((Int.tmod x5_1 2) == 0) = true := beq_iff_eq.mpr c4; have c4b1 : ((Int.tmod x5_1 2) != 0) = false := bne_eq_false_iff_eq.mpr c4; clear c4; have H' := ak H; clear H; go_wp2
   go_roundg k1
   case measure => have := HK1.out; omega
   case rel => exact ⟨(wrap64 (x4_1 + 1)), (wrap64 (Int.tdiv x5_1 2)), eqA, eqA, H', ⟨xq18⟩, xq3⟩

def spec_l09Log.f (k : Nat) (a0 : Int) (a1 : Int) : Option (Bool) := (spec_Modulus.f a0).bind fun t129 => (if t129 > 0 then ((spec_l01In.f a1 0 9).bind fun t130 => (if t130 = true then ((spec_TwoPower.f k a0).bind fun t131 => (some (decide (a1 ≤ t131)))) else (some false))) else (some false))
theorem spec_l09Log.mono : ∀ a0 a1 k, LeO (spec_l09Log.f k a0 a1) (spec_l09Log.f (k + 1) a0 a1) := by
 intro a0 a1 k
 unfold spec_l09Log.f
 exact (by repeat' (with_reducible first | exact spec_TwoPower.mono _ _ | exact LeO.refl _ | exact LeO.none _ | refine LeO.ite ?_ ?_ | refine LeO.bind ?_ (fun _ => ?_)))
theorem spec_l09Log.calls (k : Nat) (a0 : Int) (a1 : Int) (r : Bool) (w : World) (h : spec_l09Log.f k a0 a1 = some r) :
 Calls Try.prog 96 #[.int .i64 a0, .int .i64 a1] w fun e w' => e = .returned (.bool r) ∧ Drawn0 w w' := by
 have H : ((spec_Modulus.f a0).bind fun t129 => (if t129 > 0 then ((spec_l01In.f a1 0 9).bind fun t130 => (if t130 = true then ((spec_TwoPower.f k a0).bind fun t131 => (some (decide (a1 ≤ t131)))) else (some false))) else (some false))) = some r := h; clear h; replace H := Option.bind_eq_some_iff.mp H; obtain ⟨t129, A30, H⟩ := H; (try dsimp only at H); have A3 := ak A30; clear A30
 by_cases c4 : t129 > 0; rotate_left
 · rw [if_neg c4] at H; have c4b0 : decide (0 < t129) = false := decide_eq_false c4; clear c4; obtain rfl := Option.some.inj H; go_enter Try.func96, Try.ntmps96
   go_wp2_with (first | ((with_reducible refine gate_callee (f := 74) rfl ?_); refine goB 6 Try.func74 #[.int .i64 a0] rfl ?_; (with_reducible refine (spec_Modulus.calls a0 t129 _ A3.out).mono ?_); rintro e w' ⟨rfl, ⟨nd, rfl⟩⟩; refine ⟨_, rfl, ?_⟩))
   go_ret
   exact ⟨xq4, xq3⟩
 rw [if_pos c4] at H; have c4b0 : decide (0 < t129) = true := decide_eq_true c4; clear c4; replace H := Option.bind_eq_some_iff.mp H; obtain ⟨t130, A50, H⟩ := H; (try dsimp only at H); have A5 := ak A50; clear A50
 by_cases c6 : t130 = true; rotate_left
 · replace c6 := Bool.eq_false_iff.mpr c6; subst c6; have H1 : (some false) = some r := by rw [if_neg (show ¬ (false = true) by decide)] at H; exact H
   clear H; have H := H1; clear H1; obtain rfl := Option.some.inj H; go_enter Try.func96, Try.ntmps96
   go_wp2_with (first | ((with_reducible refine gate_callee (f := 74) rfl ?_); refine goB 6 Try.func74 #[.int .i64 a0] rfl ?_; (with_reducible refine (spec_Modulus.calls a0 t129 _ A3.out).mono ?_); rintro e w' ⟨rfl, ⟨nd, rfl⟩⟩; refine ⟨_, rfl, ?_⟩) | (go_at_call 50; (with_reducible refine (spec_l01In.calls a1 0 9 false _ A5.out).mono ?_); rintro e w' ⟨rfl, ⟨nd, rfl⟩⟩))
   go_ret
   exact ⟨xq4, xq3⟩
 subst c6; have H1 : ((spec_TwoPower.f k a0).bind fun t131 => (some (decide (a1 ≤ t131)))) = some r := by rw [if_pos rfl] at H; exact H
 clear H; have H := H1; clear H1; replace H := Option.bind_eq_some_iff.mp H; obtain ⟨t131, A70, H⟩ := H; (try dsimp only at H); have A7 := ak A70; clear A70; obtain rfl := Option.some.inj H; go_enter Try.func96, Try.ntmps96
 go_wp2_with (first | ((with_reducible refine gate_callee (f := 74) rfl ?_); refine goB 6 Try.func74 #[.int .i64 a0] rfl ?_; (with_reducible refine (spec_Modulus.calls a0 t129 _ A3.out).mono ?_); rintro e w' ⟨rfl, ⟨nd, rfl⟩⟩; refine ⟨_, rfl, ?_⟩) | (go_at_call 50; (with_reducible refine (spec_l01In.calls a1 0 9 true _ A5.out).mono ?_); rintro e w' ⟨rfl, ⟨nd, rfl⟩⟩) | (go_at_call 64; (with_reducible refine (spec_TwoPower.calls k a0 t131 _ A7.out).mono ?_); rintro e w' ⟨rfl, ⟨nd, rfl⟩⟩))
 go_ret
 exact ⟨xq4, xq3⟩

def spec_l09Run.f (a0 : Int) (a1_0 : Int) (a1_1 : Int) (a1_2 : Int) : Option (Bool) := (spec_l01In.f a1_0 0 (wrap64 (a0 - 1))).bind fun t133 => (if t133 = true then (if 0 ≤ a1_1 then (if a1_1 < a1_2 then (if 0 ≤ (IntKind.u64.wrap (a0)) then (some (decide (a1_2 ≤ (wrap64 (Int.tdiv (shl .i64 1 (IntKind.u64.wrap (a0))) 2))))) else (none)) else (some false)) else (some false)) else (some false))
theorem spec_l09Run.calls (a0 : Int) (a1_0 : Int) (a1_1 : Int) (a1_2 : Int) (r : Bool) (w : World) (h : spec_l09Run.f a0 a1_0 a1_1 a1_2 = some r) :
 Calls Try.prog 97 #[.int .i64 a0, .agg #[.int .i64 a1_0, .int .i64 a1_1, .int .i64 a1_2]] w fun e w' => e = .returned (.bool r) ∧ Below w.heap.size w w' := by
 have hu76 := Try.underlying76; have HB := ak (Below.refl w.heap.size w); have H : ((spec_l01In.f a1_0 0 (wrap64 (a0 - 1))).bind fun t133 => (if t133 = true then (if 0 ≤ a1_1 then (if a1_1 < a1_2 then (if 0 ≤ (IntKind.u64.wrap (a0)) then (some (decide (a1_2 ≤ (wrap64 (Int.tdiv (shl .i64 1 (IntKind.u64.wrap (a0))) 2))))) else (none)) else (some false)) else (some false)) else (some false))) = some r := h; clear h; replace H := Option.bind_eq_some_iff.mp H; obtain ⟨t133, A30, H⟩ := H; (try dsimp only at H); have A3 := ak A30; clear A30
 by_cases c4 : t133 = true; rotate_left
 · replace c4 := Bool.eq_false_iff.mpr c4; subst c4; have H1 : (some false) = some r := by rw [if_neg (show ¬ (false = true) by decide)] at H; exact H
   clear H; have H := H1; clear H1; obtain rfl := Option.some.inj H; go_enter Try.func97, Try.ntmps97
   go_wp2_with (first | ((with_reducible refine gate_dst (N := 3) rfl ?_); refine boxA 3 #[.int .i64 a1_0, .int .i64 a1_1, .int .i64 a1_2] 76 ?_; intro gb132 hg w16 hbox hb; have BK132 := ak hbox; have GW132 := leA (w := w) hg; have GE132 := leA (w := w) hg; replace HB := bS hb; clear hb hbox hg; obtain ⟨_, _, _, _, _, _⟩ := cel3 BK132) | ((with_reducible refine gate_callee (f := 50) rfl ?_); refine goB 9 Try.func50 #[.int .i64 a1_0, .int .i64 0, .int .i64 (wrap64 (a0 - 1))] rfl ?_; (with_reducible refine (spec_l01In.calls a1_0 0 (wrap64 (a0 - 1)) false _ A3.out).mono ?_); rintro e w' ⟨rfl, ⟨nd, rfl⟩⟩; refine ⟨_, rfl, ?_⟩))
   go_ret
   exact ⟨xq1, belA⟩
 subst c4; have H1 : (if 0 ≤ a1_1 then (if a1_1 < a1_2 then (if 0 ≤ (IntKind.u64.wrap (a0)) then (some (decide (a1_2 ≤ (wrap64 (Int.tdiv (shl .i64 1 (IntKind.u64.wrap (a0))) 2))))) else (none)) else (some false)) else (some false)) = some r := by rw [if_pos rfl] at H; exact H
 clear H; have H := H1; clear H1
 by_cases c5 : 0 ≤ a1_1; rotate_left
 · rw [if_neg c5] at H; have c5b0 := decide_eq_false c5; clear c5; obtain rfl := Option.some.inj H; go_enter Try.func97, Try.ntmps97
   go_wp2_with (first | ((with_reducible refine gate_dst (N := 3) rfl ?_); refine boxA 3 #[.int .i64 a1_0, .int .i64 a1_1, .int .i64 a1_2] 76 ?_; intro gb132 hg w14 hbox hb; have BK132 := ak hbox; have GW132 := leA (w := w) hg; have GE132 := leA (w := w) hg; replace HB := bS hb; clear hb hbox hg; obtain ⟨_, _, _, _, _, _⟩ := cel3 BK132) | ((with_reducible refine gate_callee (f := 50) rfl ?_); refine goB 9 Try.func50 #[.int .i64 a1_0, .int .i64 0, .int .i64 (wrap64 (a0 - 1))] rfl ?_; (with_reducible refine (spec_l01In.calls a1_0 0 (wrap64 (a0 - 1)) true _ A3.out).mono ?_); rintro e w' ⟨rfl, ⟨nd, rfl⟩⟩; refine ⟨_, rfl, ?_⟩))
   go_ret
   exact ⟨xq1, belA⟩
 rw [if_pos c5] at H; have c5b0 := decide_eq_true c5; clear c5
 by_cases c6 : a1_1 < a1_2; rotate_left
 · rw [if_neg c6] at H; have c6b0 := decide_eq_false c6; clear c6; obtain rfl := Option.some.inj H; go_enter Try.func97, Try.ntmps97
   go_wp2_with (first | ((with_reducible refine gate_dst (N := 3) rfl ?_); refine boxA 3 #[.int .i64 a1_0, .int .i64 a1_1, .int .i64 a1_2] 76 ?_; intro gb132 hg w12 hbox hb; have BK132 := ak hbox; have GW132 := leA (w := w) hg; have GE132 := leA (w := w) hg; replace HB := bS hb; clear hb hbox hg; obtain ⟨_, _, _, _, _, _⟩ := cel3 BK132) | ((with_reducible refine gate_callee (f := 50) rfl ?_); refine goB 9 Try.func50 #[.int .i64 a1_0, .int .i64 0, .int .i64 (wrap64 (a0 - 1))] rfl ?_; (with_reducible refine (spec_l01In.calls a1_0 0 (wrap64 (a0 - 1)) true _ A3.out).mono ?_); rintro e w' ⟨rfl, ⟨nd, rfl⟩⟩; refine ⟨_, rfl, ?_⟩))
   go_ret
   exact ⟨xq1, belA⟩
 rw [if_pos c6] at H; have c6b0 := decide_eq_true c6; clear c6; obtain ⟨ji7, hji7⟩ : ∃ j_ : Int, (IntKind.u64.wrap (a0)) = j_ := ⟨_, rfl⟩; replace H : (if 0 ≤ (ji7) then (some (decide (a1_2 ≤ (wrap64 (Int.tdiv (shl .i64 1 (ji7)) 2))))) else (none)) = some r := by first | (rw [hji7] at H; exact H) | (simp only [hji7] at H ⊢; exact H)
 (try rw [hji7] at A3)
 by_cases c8 : 0 ≤ (ji7); rotate_left
 · rw [if_neg c8] at H; exact absurd H (by simp)
 rw [if_pos c8] at H; have c8b0 := eq_true c8; have c8b1 : decide (0 ≤ (ji7)) = true := decide_eq_true c8; clear c8; obtain ⟨ji9, hji9⟩ : ∃ j_ : Int, (shl .i64 1 (ji7)) = j_ := ⟨_, rfl⟩; replace H : (some (decide (a1_2 ≤ (wrap64 (Int.tdiv (ji9) 2))))) = some r := by first | (rw [hji9] at H; exact H) | (simp only [hji9] at H ⊢; exact H)
 (try rw [hji9] at A3)
 have hji9_ : (IntKind.i64.wrap (1 * 2 ^ min (ji7).toNat 64)) = ji9 := hji9; have hji9z : (ji7) ≤ 64 → (IntKind.i64.wrap (1 * 2 ^ (ji7).toNat)) = ji9 := shl_small hji9; have hji9u : (IntKind.i64.wrap (2 ^ min (ji7).toNat 64)) = ji9 := by have h_ := hji9_; rw [Int.one_mul] at h_; exact h_
 have hji9v : (ji7) ≤ 64 → (IntKind.i64.wrap (2 ^ (ji7).toNat)) = ji9 := fun hle_ => by have h_ := hji9z hle_; rw [Int.one_mul] at h_; exact h_
 have hji9y : (wrap64 (1 * 2 ^ min (ji7).toNat 64)) = ji9 := (i64_w _).symm.trans hji9_; have hji9x : (ji7) ≤ 64 → (wrap64 (1 * 2 ^ (ji7).toNat)) = ji9 := fun h_ => (i64_w _).symm.trans (hji9z h_)
 obtain rfl := Option.some.inj H; go_enter Try.func97, Try.ntmps97
 go_wp2_with (first | ((with_reducible refine gate_dst (N := 3) rfl ?_); refine boxA 3 #[.int .i64 a1_0, .int .i64 a1_1, .int .i64 a1_2] 76 ?_; intro gb132 hg w10 hbox hb; have BK132 := ak hbox; have GW132 := leA (w := w) hg; have GE132 := leA (w := w) hg; replace HB := bS hb; clear hb hbox hg; obtain ⟨_, _, _, _, _, _⟩ := cel3 BK132) | ((with_reducible refine gate_callee (f := 50) rfl ?_); refine goB 9 Try.func50 #[.int .i64 a1_0, .int .i64 0, .int .i64 (wrap64 (a0 - 1))] rfl ?_; (with_reducible refine (spec_l01In.calls a1_0 0 (wrap64 (a0 - 1)) true _ A3.out).mono ?_); rintro e w' ⟨rfl, ⟨nd, rfl⟩⟩; refine ⟨_, rfl, ?_⟩))
 go_ret
 exact ⟨xq58, belA⟩

end Go.Proofs.Ytdefnccngnilmaa.PFnExactMakespan

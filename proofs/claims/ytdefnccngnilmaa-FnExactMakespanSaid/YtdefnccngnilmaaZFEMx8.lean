-- Written by a program of this session (the print of the kit with contracts of this session's own added)
import Derived.Test.YtdefnccngnilmaaZFEMx1
import Derived.Test.YtdefnccngnilmaaZFEMx2
namespace Go.Proofs.Ytdefnccngnilmaa.PFnExactMakespan
open Go.RowKit Go.Proofs.YtdefnccngnilmaaW.PrintWords Go.Proofs.YtdefnccngnilmaaW.PrintLast Go.Proofs.YtdefnccngnilmaaW.PrintMore Go.Proofs.YtdefnccngnilmaaW.PrintPack
attribute [local go_sem] max2_int min2_int max_two min_two max_three min_three max_four min_four   -- for this text's walks alone
set_option linter.unusedVariables false
set_option linter.unusedSimpArgs false

def impl_fieldOf.f (a0 : Int) : Option (Int × Int × Int × Bool) := Go.Proofs.Ytdefnccngnilmaa.Fld.impl_fieldOf.f a0
theorem impl_fieldOf.calls (a0 : Int) (r1 : Int) (r2 : Int) (r3 : Int) (r4 : Bool) (w : World) (h : impl_fieldOf.f a0 = some (r1, r2, r3, r4)) :
 Calls Try.prog 99 #[.int .i64 a0] w fun e w' => e = .returned (.tuple #[.agg #[.int .i64 r1, .int .i64 r2, .int .i64 r3], .bool r4]) ∧ Below w.heap.size w w' :=
 Go.Proofs.Ytdefnccngnilmaa.Fld.impl_fieldOf.calls a0 r1 r2 r3 r4 w h

def impl_isStep.f (a0_0 : Int) (a0_1 : Int) (a0_2 : Int) (a1 : Int) : Option (Bool) := if a0_0 ≥ 0 then (if a0_0 < a1 then (if a0_1 ≥ 0 then (if a0_1 < a0_2 then (if 0 ≤ (wrap64 (a1 - 1)) then (some (decide (a0_2 ≤ (shl .i64 1 (wrap64 (a1 - 1)))))) else (none)) else (some false)) else (some false)) else (some false)) else (some false)
set_option maxHeartbeats 8000000 in
set_option maxRecDepth 100000 in
theorem impl_isStep.calls (a0_0 : Int) (a0_1 : Int) (a0_2 : Int) (a1 : Int) (r : Bool) (w : World) (h : impl_isStep.f a0_0 a0_1 a0_2 a1 = some r) :
 Calls Try.prog 100 #[.agg #[.int .i64 a0_0, .int .i64 a0_1, .int .i64 a0_2], .int .i64 a1] w fun e w' => e = .returned (.bool r) ∧ Below w.heap.size w w' := by
 have hu76 := Try.underlying76; have HB := ak (Below.refl w.heap.size w); have H : (if a0_0 ≥ 0 then (if a0_0 < a1 then (if a0_1 ≥ 0 then (if a0_1 < a0_2 then (if 0 ≤ (wrap64 (a1 - 1)) then (some (decide (a0_2 ≤ (shl .i64 1 (wrap64 (a1 - 1)))))) else (none)) else (some false)) else (some false)) else (some false)) else (some false)) = some r := h; clear h
 by_cases c3 : a0_0 ≥ 0; rotate_left
 · rw [if_neg c3] at H; have c3b0 : decide (0 ≤ a0_0) = false := decide_eq_false c3; clear c3; obtain rfl := Option.some.inj H; go_enter Try.func100, Try.ntmps100
   go_wp2_with (first | ((with_reducible refine gate_dst (N := 2) rfl ?_); refine boxA 2 #[.int .i64 a0_0, .int .i64 a0_1, .int .i64 a0_2] 76 ?_; intro gb186 hg w18 hbox hb; have BK186 := ak hbox; have GW186 := leA (w := w) hg; have GE186 := leA (w := w) hg; replace HB := bS hb; clear hb hbox hg; obtain ⟨_, _, _, _, _, _⟩ := cel3 BK186))
   repeat (go_quiet (first | ((with_reducible refine gate_dst (N := 2) rfl ?_); refine boxA 2 #[.int .i64 a0_0, .int .i64 a0_1, .int .i64 a0_2] 76 ?_; intro gb186 hg w18 hbox hb; have BK186 := ak hbox; have GW186 := leA (w := w) hg; have GE186 := leA (w := w) hg; replace HB := bS hb; clear hb hbox hg; obtain ⟨_, _, _, _, _, _⟩ := cel3 BK186)); try go_wp2_with (first | ((with_reducible refine gate_dst (N := 2) rfl ?_); refine boxA 2 #[.int .i64 a0_0, .int .i64 a0_1, .int .i64 a0_2] 76 ?_; intro gb186 hg w18 hbox hb; have BK186 := ak hbox; have GW186 := leA (w := w) hg; have GE186 := leA (w := w) hg; replace HB := bS hb; clear hb hbox hg; obtain ⟨_, _, _, _, _, _⟩ := cel3 BK186)))
   go_ret
   exact ⟨xq1, belA⟩
 rw [if_pos c3] at H; have c3b0 : decide (0 ≤ a0_0) = true := decide_eq_true c3; clear c3
 by_cases c4 : a0_0 < a1; rotate_left
 · rw [if_neg c4] at H; have c4b0 := decide_eq_false c4; clear c4; obtain rfl := Option.some.inj H; go_enter Try.func100, Try.ntmps100
   go_wp2_with (first | ((with_reducible refine gate_dst (N := 2) rfl ?_); refine boxA 2 #[.int .i64 a0_0, .int .i64 a0_1, .int .i64 a0_2] 76 ?_; intro gb186 hg w16 hbox hb; have BK186 := ak hbox; have GW186 := leA (w := w) hg; have GE186 := leA (w := w) hg; replace HB := bS hb; clear hb hbox hg; obtain ⟨_, _, _, _, _, _⟩ := cel3 BK186))
   repeat (go_quiet (first | ((with_reducible refine gate_dst (N := 2) rfl ?_); refine boxA 2 #[.int .i64 a0_0, .int .i64 a0_1, .int .i64 a0_2] 76 ?_; intro gb186 hg w16 hbox hb; have BK186 := ak hbox; have GW186 := leA (w := w) hg; have GE186 := leA (w := w) hg; replace HB := bS hb; clear hb hbox hg; obtain ⟨_, _, _, _, _, _⟩ := cel3 BK186)); try go_wp2_with (first | ((with_reducible refine gate_dst (N := 2) rfl ?_); refine boxA 2 #[.int .i64 a0_0, .int .i64 a0_1, .int .i64 a0_2] 76 ?_; intro gb186 hg w16 hbox hb; have BK186 := ak hbox; have GW186 := leA (w := w) hg; have GE186 := leA (w := w) hg; replace HB := bS hb; clear hb hbox hg; obtain ⟨_, _, _, _, _, _⟩ := cel3 BK186)))
   go_ret
   exact ⟨xq1, belA⟩
 rw [if_pos c4] at H; have c4b0 := decide_eq_true c4; clear c4
 by_cases c5 : a0_1 ≥ 0; rotate_left
 · rw [if_neg c5] at H; have c5b0 : decide (0 ≤ a0_1) = false := decide_eq_false c5; clear c5; obtain rfl := Option.some.inj H; go_enter Try.func100, Try.ntmps100
   go_wp2_with (first | ((with_reducible refine gate_dst (N := 2) rfl ?_); refine boxA 2 #[.int .i64 a0_0, .int .i64 a0_1, .int .i64 a0_2] 76 ?_; intro gb186 hg w14 hbox hb; have BK186 := ak hbox; have GW186 := leA (w := w) hg; have GE186 := leA (w := w) hg; replace HB := bS hb; clear hb hbox hg; obtain ⟨_, _, _, _, _, _⟩ := cel3 BK186))
   repeat (go_quiet (first | ((with_reducible refine gate_dst (N := 2) rfl ?_); refine boxA 2 #[.int .i64 a0_0, .int .i64 a0_1, .int .i64 a0_2] 76 ?_; intro gb186 hg w14 hbox hb; have BK186 := ak hbox; have GW186 := leA (w := w) hg; have GE186 := leA (w := w) hg; replace HB := bS hb; clear hb hbox hg; obtain ⟨_, _, _, _, _, _⟩ := cel3 BK186)); try go_wp2_with (first | ((with_reducible refine gate_dst (N := 2) rfl ?_); refine boxA 2 #[.int .i64 a0_0, .int .i64 a0_1, .int .i64 a0_2] 76 ?_; intro gb186 hg w14 hbox hb; have BK186 := ak hbox; have GW186 := leA (w := w) hg; have GE186 := leA (w := w) hg; replace HB := bS hb; clear hb hbox hg; obtain ⟨_, _, _, _, _, _⟩ := cel3 BK186)))
   go_ret
   exact ⟨xq1, belA⟩
 rw [if_pos c5] at H; have c5b0 : decide (0 ≤ a0_1) = true := decide_eq_true c5; clear c5
 by_cases c6 : a0_1 < a0_2; rotate_left
 · rw [if_neg c6] at H; have c6b0 := decide_eq_false c6; clear c6; obtain rfl := Option.some.inj H; go_enter Try.func100, Try.ntmps100
   go_wp2_with (first | ((with_reducible refine gate_dst (N := 2) rfl ?_); refine boxA 2 #[.int .i64 a0_0, .int .i64 a0_1, .int .i64 a0_2] 76 ?_; intro gb186 hg w12 hbox hb; have BK186 := ak hbox; have GW186 := leA (w := w) hg; have GE186 := leA (w := w) hg; replace HB := bS hb; clear hb hbox hg; obtain ⟨_, _, _, _, _, _⟩ := cel3 BK186))
   repeat (go_quiet (first | ((with_reducible refine gate_dst (N := 2) rfl ?_); refine boxA 2 #[.int .i64 a0_0, .int .i64 a0_1, .int .i64 a0_2] 76 ?_; intro gb186 hg w12 hbox hb; have BK186 := ak hbox; have GW186 := leA (w := w) hg; have GE186 := leA (w := w) hg; replace HB := bS hb; clear hb hbox hg; obtain ⟨_, _, _, _, _, _⟩ := cel3 BK186)); try go_wp2_with (first | ((with_reducible refine gate_dst (N := 2) rfl ?_); refine boxA 2 #[.int .i64 a0_0, .int .i64 a0_1, .int .i64 a0_2] 76 ?_; intro gb186 hg w12 hbox hb; have BK186 := ak hbox; have GW186 := leA (w := w) hg; have GE186 := leA (w := w) hg; replace HB := bS hb; clear hb hbox hg; obtain ⟨_, _, _, _, _, _⟩ := cel3 BK186)))
   go_ret
   exact ⟨xq1, belA⟩
 rw [if_pos c6] at H; have c6b0 := decide_eq_true c6; clear c6; obtain ⟨ji7, hji7⟩ : ∃ j_ : Int, (wrap64 (a1 - 1)) = j_ := ⟨_, rfl⟩; replace H : (if 0 ≤ (ji7) then (some (decide (a0_2 ≤ (shl .i64 1 (ji7))))) else (none)) = some r := by first | (rw [hji7] at H; exact H) | (simp only [hji7] at H ⊢; exact H)
 have hji7w : (IntKind.i64.wrap (a1 - 1)) = ji7 := (i64_w _).trans hji7
 by_cases c8 : 0 ≤ (ji7); rotate_left
 · rw [if_neg c8] at H; exact absurd H (by simp)
 rw [if_pos c8] at H; have c8b0 := eq_true c8; have c8b1 : decide (0 ≤ (ji7)) = true := decide_eq_true c8; clear c8; obtain ⟨ji9, hji9⟩ : ∃ j_ : Int, (shl .i64 1 (ji7)) = j_ := ⟨_, rfl⟩; replace H : (some (decide (a0_2 ≤ (ji9)))) = some r := by first | (rw [hji9] at H; exact H) | (simp only [hji9] at H ⊢; exact H)
 have hji9_ : (IntKind.i64.wrap (1 * 2 ^ min (ji7).toNat 64)) = ji9 := hji9; have hji9z : (ji7) ≤ 64 → (IntKind.i64.wrap (1 * 2 ^ (ji7).toNat)) = ji9 := shl_small hji9; have hji9u : (IntKind.i64.wrap (2 ^ min (ji7).toNat 64)) = ji9 := by have h_ := hji9_; rw [Int.one_mul] at h_; exact h_
 have hji9v : (ji7) ≤ 64 → (IntKind.i64.wrap (2 ^ (ji7).toNat)) = ji9 := fun hle_ => by have h_ := hji9z hle_; rw [Int.one_mul] at h_; exact h_
 have hji9y : (wrap64 (1 * 2 ^ min (ji7).toNat 64)) = ji9 := (i64_w _).symm.trans hji9_; have hji9x : (ji7) ≤ 64 → (wrap64 (1 * 2 ^ (ji7).toNat)) = ji9 := fun h_ => (i64_w _).symm.trans (hji9z h_)
 obtain rfl := Option.some.inj H; go_enter Try.func100, Try.ntmps100
 go_wp2_with (first | ((with_reducible refine gate_dst (N := 2) rfl ?_); refine boxA 2 #[.int .i64 a0_0, .int .i64 a0_1, .int .i64 a0_2] 76 ?_; intro gb186 hg w10 hbox hb; have BK186 := ak hbox; have GW186 := leA (w := w) hg; have GE186 := leA (w := w) hg; replace HB := bS hb; clear hb hbox hg; obtain ⟨_, _, _, _, _, _⟩ := cel3 BK186))
 repeat (go_quiet (first | ((with_reducible refine gate_dst (N := 2) rfl ?_); refine boxA 2 #[.int .i64 a0_0, .int .i64 a0_1, .int .i64 a0_2] 76 ?_; intro gb186 hg w10 hbox hb; have BK186 := ak hbox; have GW186 := leA (w := w) hg; have GE186 := leA (w := w) hg; replace HB := bS hb; clear hb hbox hg; obtain ⟨_, _, _, _, _, _⟩ := cel3 BK186)); try go_wp2_with (first | ((with_reducible refine gate_dst (N := 2) rfl ?_); refine boxA 2 #[.int .i64 a0_0, .int .i64 a0_1, .int .i64 a0_2] 76 ?_; intro gb186 hg w10 hbox hb; have BK186 := ak hbox; have GW186 := leA (w := w) hg; have GE186 := leA (w := w) hg; replace HB := bS hb; clear hb hbox hg; obtain ⟨_, _, _, _, _, _⟩ := cel3 BK186)))
 go_ret
 exact ⟨xq58, belA⟩

end Go.Proofs.Ytdefnccngnilmaa.PFnExactMakespan

-- Written by a program of this session (the print of the kit with contracts of this session's own added)
import Derived.Test.YtbojabmpcfclhaaZFLOx1
import Derived.Test.YtbojabmpcfclhaaZFLOV
namespace Go.Proofs.Ytbojabmpcfclhaa.PFnLineOrder
open Go.RowKit Go.Proofs.YtbojabmpcfclhaaW.PrintWords Go.Proofs.YtbojabmpcfclhaaW.PrintLast Go.Proofs.YtbojabmpcfclhaaW.PrintMore Go.Proofs.YtbojabmpcfclhaaW.PrintPack
attribute [local go_sem] max2_int min2_int max_two min_two max_three min_three max_four min_four   -- for this text's walks alone
set_option linter.unusedVariables false
set_option linter.unusedSimpArgs false

/-! ### laws_big: function 9 -/
def laws_big.f (l0 : List Int) : Option (Bool) := some (decide ((l0.length : Int) > 1048576))
set_option maxHeartbeats 8000000 in
set_option maxRecDepth 100000 in
theorem laws_big.calls (A0 : Option Addr) (c0 : Nat) (l0 : List Int) (r : Bool) (w : World) (hr0 : Kd.C (Kd.int .u8) w A0 l0.length l0) (hc0 : l0.length ≤ c0) (h : laws_big.f l0 = some r) :
 Calls Try.prog 9 #[.slice A0 l0.length c0] w fun e w' => e = .returned (.bool r) ∧ Drawn0 w w' := by
 have HR0 := Aside0.mk hr0; have HC0 := Aside0.mk hc0; clear hr0 hc0; have H : (some (decide ((l0.length : Int) > 1048576))) = some r := h; clear h; obtain rfl := Option.some.inj H; go_enter Try.func9, Try.ntmps9
 go_wp2
 go_ret
 exact ⟨by first | rfl | (simp; done) | (simp [*]; done), by repeat (first | exact Drawn0.refl _ | apply Drawn0.step)⟩

/-! ### laws_at: function 30 -/
def laws_at.f (l0 : List Int) (a1 : Int) : Option (Int) := if a1 < (l0.length : Int) then (if 0 ≤ a1 then (some (wrap64 (rd l0 a1))) else (none)) else (some (Int.tmod (wrap64 ((wrap64 (a1 * 13)) + (wrap64 ((l0.length : Int) * 5)))) 256))
set_option maxHeartbeats 8000000 in
set_option maxRecDepth 100000 in
theorem laws_at.calls (A0 : Option Addr) (c0 : Nat) (l0 : List Int) (a1 : Int) (r : Int) (w : World) (hr0 : Kd.C (Kd.int .u8) w A0 l0.length l0) (hc0 : l0.length ≤ c0) (h : laws_at.f l0 a1 = some r) :
 Calls Try.prog 30 #[.slice A0 l0.length c0, .int .i64 a1] w fun e w' => e = .returned (.int .i64 r) ∧ Drawn0 w w' := by
 have HR0 := Aside0.mk hr0; have HC0 := Aside0.mk hc0; clear hr0 hc0; have H : (if a1 < (l0.length : Int) then (if 0 ≤ a1 then (some (wrap64 (rd l0 a1))) else (none)) else (some (Int.tmod (wrap64 ((wrap64 (a1 * 13)) + (wrap64 ((l0.length : Int) * 5)))) 256))) = some r := h; clear h
 by_cases c3 : a1 < (l0.length : Int)
 · rw [if_pos c3] at H; have c3b0 := decide_eq_true c3; clear c3
   by_cases c4 : 0 ≤ a1
   · rw [if_pos c4] at H; have c4b0 := decide_eq_true c4; clear c4; obtain rfl := Option.some.inj H; have p101 : 0 ≤ (a1 : Int) := odA; have q101 : a1 < (l0.length : Int) := odA; obtain ⟨ad101, e101, hx101_0⟩ := Kd.at_int HR0.out a1 p101 q101
     cases e101
     replace p101 := eq_true p101; replace q101 := eq_true q101; go_enter Try.func30, Try.ntmps30
     go_wp2
     go_ret
     exact ⟨by first | rfl | (simp; done) | (simp [*]; done), by repeat (first | exact Drawn0.refl _ | apply Drawn0.step)⟩
   · rw [if_neg c4] at H; exact absurd H (by simp)
 · rw [if_neg c3] at H; have c3b0 := decide_eq_false c3; clear c3; obtain rfl := Option.some.inj H; go_enter Try.func30, Try.ntmps30
   go_wp2
   go_ret
   exact ⟨by first | rfl | (simp; done) | (simp [*]; done), by repeat (first | exact Drawn0.refl _ | apply Drawn0.step)⟩

/-! ### impl_isTicket: function 145 -/
def impl_isTicket.f (a0_0 : Int) (a0_1 : Int) : Option (Bool) := if a0_0 ≥ 1 then (if a0_0 ≤ 1000000000 then (if a0_1 ≥ 1 then (some (decide (a0_1 ≤ 200000))) else (some false)) else (some false)) else (some false)
set_option maxHeartbeats 8000000 in
set_option maxRecDepth 100000 in
theorem impl_isTicket.calls (a0_0 : Int) (a0_1 : Int) (r : Bool) (w : World) (h : impl_isTicket.f a0_0 a0_1 = some r) :
 Calls Try.prog 145 #[.agg #[.int .i64 a0_0, .int .i64 a0_1]] w fun e w' => e = .returned (.bool r) ∧ Below w.heap.size w w' := by
 have hu65 := Try.underlying65; have HB := Aside0.mk (Below.refl w.heap.size w); have H : (if a0_0 ≥ 1 then (if a0_0 ≤ 1000000000 then (if a0_1 ≥ 1 then (some (decide (a0_1 ≤ 200000))) else (some false)) else (some false)) else (some false)) = some r := h; clear h
 by_cases c2 : a0_0 ≥ 1
 · rw [if_pos c2] at H; have c2b0 := decide_eq_true c2; clear c2
   by_cases c3 : a0_0 ≤ 1000000000
   · rw [if_pos c3] at H; have c3b0 := decide_eq_true c3; clear c3
     by_cases c4 : a0_1 ≥ 1
     · rw [if_pos c4] at H; have c4b0 := decide_eq_true c4; clear c4; obtain rfl := Option.some.inj H; go_enter Try.func145, Try.ntmps145
       go_wp2_with (first | ((with_reducible refine gate_dst (N := 1) rfl ?_); refine boxA 1 #[.int .i64 a0_0, .int .i64 a0_1] 65 ?_; intro gb102 hg w5 hbox hb; have BK102 := Aside0.mk hbox; have GW102 := leA (w := w) hg; have GE102 := leA (w := w) hg; replace HB := bS hb; clear hb hbox hg; obtain ⟨hcz6_0, hcz6_1, hfz6_0, hfz6_1⟩ := cel2 BK102))
       go_ret
       exact ⟨by first | rfl | (simp [errW_none, errW_some] <;> rfl) | (simp [*, errW_none, errW_some] <;> rfl) | (simp [wrap64]; done) | (simp [*, wrap64]; done), belA⟩
     · rw [if_neg c4] at H; have c4b0 := decide_eq_false c4; clear c4; obtain rfl := Option.some.inj H; go_enter Try.func145, Try.ntmps145
       go_wp2_with (first | ((with_reducible refine gate_dst (N := 1) rfl ?_); refine boxA 1 #[.int .i64 a0_0, .int .i64 a0_1] 65 ?_; intro gb102 hg w7 hbox hb; have BK102 := Aside0.mk hbox; have GW102 := leA (w := w) hg; have GE102 := leA (w := w) hg; replace HB := bS hb; clear hb hbox hg; obtain ⟨hcz8_0, hcz8_1, hfz8_0, hfz8_1⟩ := cel2 BK102))
       go_ret
       exact ⟨by first | rfl | (simp [errW_none, errW_some] <;> rfl) | (simp [*, errW_none, errW_some] <;> rfl) | (simp [wrap64]; done) | (simp [*, wrap64]; done), belA⟩
   · rw [if_neg c3] at H; have c3b0 := decide_eq_false c3; clear c3; obtain rfl := Option.some.inj H; go_enter Try.func145, Try.ntmps145
     go_wp2_with (first | ((with_reducible refine gate_dst (N := 1) rfl ?_); refine boxA 1 #[.int .i64 a0_0, .int .i64 a0_1] 65 ?_; intro gb102 hg w9 hbox hb; have BK102 := Aside0.mk hbox; have GW102 := leA (w := w) hg; have GE102 := leA (w := w) hg; replace HB := bS hb; clear hb hbox hg; obtain ⟨hcz10_0, hcz10_1, hfz10_0, hfz10_1⟩ := cel2 BK102))
     go_ret
     exact ⟨by first | rfl | (simp [errW_none, errW_some] <;> rfl) | (simp [*, errW_none, errW_some] <;> rfl) | (simp [wrap64]; done) | (simp [*, wrap64]; done), belA⟩
 · rw [if_neg c2] at H; have c2b0 := decide_eq_false c2; clear c2; obtain rfl := Option.some.inj H; go_enter Try.func145, Try.ntmps145
   go_wp2_with (first | ((with_reducible refine gate_dst (N := 1) rfl ?_); refine boxA 1 #[.int .i64 a0_0, .int .i64 a0_1] 65 ?_; intro gb102 hg w11 hbox hb; have BK102 := Aside0.mk hbox; have GW102 := leA (w := w) hg; have GE102 := leA (w := w) hg; replace HB := bS hb; clear hb hbox hg; obtain ⟨hcz12_0, hcz12_1, hfz12_0, hfz12_1⟩ := cel2 BK102))
   go_ret
   exact ⟨by first | rfl | (simp [errW_none, errW_some] <;> rfl) | (simp [*, errW_none, errW_some] <;> rfl) | (simp [wrap64]; done) | (simp [*, wrap64]; done), belA⟩

end Go.Proofs.Ytbojabmpcfclhaa.PFnLineOrder

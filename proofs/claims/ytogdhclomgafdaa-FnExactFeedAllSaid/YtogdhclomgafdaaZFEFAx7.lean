-- Written by a program of this session (the print of the kit with contracts of this session's own added)
import Derived.Test.YtogdhclomgafdaaZFEFAx0
import Derived.Test.YtogdhclomgafdaaZFEFAx1
namespace Go.Proofs.Ytogdhclomgafdaa.PFnExactFeedAll
open Go.RowKit Go.Proofs.YtogdhclomgafdaaW.PrintWords Go.Proofs.YtogdhclomgafdaaW.PrintLast Go.Proofs.YtogdhclomgafdaaW.PrintMore Go.Proofs.YtogdhclomgafdaaW.PrintPack
set_option linter.unusedVariables false
set_option linter.unusedSimpArgs false

def impl_numberIn.l0 : Nat → Int → List Int → Int → Int → Option (Int)
 | 0, _, _, _, _ => none
 | k + 1, x3, x6, x7, x8 => if x8 < x7 then (if 0 ≤ x8 then (if x8 < (x6.length : Int) then (impl_numberIn.l0 k (Go.bits .or .i64 (wrap64 (x3 * 256)) (wrap64 (rd x6 x8))) x6 x7 (wrap64 (x8 + 1))) else (none)) else (none)) else (some x3)
def impl_numberIn.f (k : Nat) (l0 : List Int) : Option (Int) := impl_numberIn.l0 k 0 l0 (l0.length : Int) 0
theorem impl_numberIn.mono_l : ∀ k, (∀ y0 y1 y2 y3, LeO (impl_numberIn.l0 k y0 y1 y2 y3) (impl_numberIn.l0 (k + 1) y0 y1 y2 y3))
 | 0 => fun _ _ _ _ r h => by simp [impl_numberIn.l0] at h
 | k + 1 => by
  have ih0 := impl_numberIn.mono_l k
  · intro y0 y1 y2 y3; unfold impl_numberIn.l0; exact xq24
theorem impl_numberIn.mono : ∀ a0 k, LeO (impl_numberIn.f k a0) (impl_numberIn.f (k + 1) a0) := by
 intro a0 k; have ih0 := impl_numberIn.mono_l k
 unfold impl_numberIn.f
 exact xq24
set_option maxHeartbeats 8000000 in
set_option maxRecDepth 100000 in
theorem impl_numberIn.calls (k : Nat) (A0 : Option Addr) (c0 : Nat) (l0 : List Int) (r : Int) (w : World) (hr0 : Kd.C (Kd.int .u8) w A0 l0.length l0) (hc0 : l0.length ≤ c0) (h : impl_numberIn.f k l0 = some r) :
 Calls Try.prog 126 #[.slice A0 l0.length c0] w fun e w' => e = .returned (.int .i64 r) ∧ Drawn0 w w' := by
 have HR0 := ak hr0; have HC0 := ak hc0; clear hr0 hc0; have H : (impl_numberIn.l0 k 0 l0 (l0.length : Int) 0) = some r := h; clear h; have H' := ak H; clear H; go_enter Try.func126, Try.ntmps126
 go_wp2
 go_loopg [3, 8] k (fun kq v3 v8 w' => ∃ (x3_1 : Int) (x8_1 : Int), v3 = .int .i64 x3_1 ∧ v8 = .int .i64 x8_1 ∧ Aside0 (impl_numberIn.l0 kq x3_1 l0 (l0.length : Int) x8_1 = some r) ∧ Aside0 (kq ≤ k) ∧ Drawn0 w w')
 case atStart => exact ⟨(0), (0), eqA, eqA, H', ⟨Nat.le_refl _⟩, xq1⟩
 case round =>
  clear H'; obtain ⟨x3_1, x8_1, rfl, rfl, HA, HK1, ⟨m1, rfl⟩⟩ := hrel
  cases gk with
  | zero => exact absurd HA.out (by simp [impl_numberIn.l0])
  | succ k1 =>
   have H := HA.out; clear HA; simp only [impl_numberIn.l0] at H
   by_cases c2 : x8_1 < (l0.length : Int); rotate_left
   · rw [if_neg c2] at H; have c2b0 := decide_eq_false c2; clear c2; obtain rfl := Option.some.inj H; go_wp2
     go_ret
     exact ⟨xq3, xq1⟩
   rw [if_pos c2] at H; have c2b0 := decide_eq_true c2; clear c2
   by_cases c3 : 0 ≤ x8_1; rotate_left
   · rw [if_neg c3] at H; exact absurd H (by simp)
   rw [if_pos c3] at H; have c3b0 := decide_eq_true c3; clear c3
   by_cases c4 : x8_1 < (l0.length : Int); rotate_left
   · rw [if_neg c4] at H; exact absurd H (by simp)
   rw [if_pos c4] at H; have c4b0 := decide_eq_true c4; clear c4; have H' := ak H; clear H; have p193 : 0 ≤ (x8_1 : Int) := odA; have q193 : x8_1 < (l0.length : Int) := odA; obtain ⟨ad193, e193, hx193_0⟩ := Kd.at_int HR0.out x8_1 p193 q193
   cases e193
   replace p193 := eq_true p193; replace q193 := eq_true q193; go_wp2
   go_roundg k1
   case measure => have := HK1.out; omega
   case rel => exact ⟨(Go.bits .or .i64 (wrap64 (x3_1 * 256)) (wrap64 (rd l0 x8_1))), (wrap64 (x8_1 + 1)), eqA, eqA, H', ⟨xq5⟩, xq1⟩

end Go.Proofs.Ytogdhclomgafdaa.PFnExactFeedAll

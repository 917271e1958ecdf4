-- Written by a program of this session (the print of the kit with contracts of this session's own added)
import Derived.Test.YtogdhclomgafdaaZFJBx1
import Derived.Test.YtogdhclomgafdaaZFJBx2
set_option maxHeartbeats 8000000
set_option maxRecDepth 100000
namespace Go.Proofs.Ytogdhclomgafdaa.PFnJobBytes
open Go.RowKit Go.Proofs.YtogdhclomgafdaaW.PrintWords Go.Proofs.YtogdhclomgafdaaW.PrintLast Go.Proofs.YtogdhclomgafdaaW.PrintMore Go.Proofs.YtogdhclomgafdaaW.PrintPack Go.Proofs.YtogdhclomgafdaaW.PrintPack
attribute [local go_sem] max2_int min2_int max_two min_two max_three min_three max_four min_four   -- for this text's walks alone
set_option linter.unusedVariables false
set_option linter.unusedSimpArgs false

mutual
def impl_takeNumber.l0 : Nat → List Int → Int → Int → Int → Option (Int × Int × Bool)
 | 0, _, _, _, _ => none
 | k + 1, x0, x1, x7, x8 => if x8 < 7 then (impl_takeNumber.j1 k x0 x1 x7 x8 (decide ((wrap64 (x1 + x8)) < (x0.length : Int)))) else (impl_takeNumber.j1 k x0 x1 x7 x8 false)
def impl_takeNumber.j1 : Nat → List Int → Int → Int → Int → Bool → Option (Int × Int × Bool)
 | 0, _, _, _, _, _ => none
 | k + 1, x0, x1, x7, x8, x22 => if x22 = true then (if 0 ≤ (wrap64 (x1 + x8)) then (if (wrap64 (x1 + x8)) < (x0.length : Int) then (if 0 ≤ (wrap64 (7 * x8)) then (if (wrap64 (rd x0 (wrap64 (x1 + x8)))) ≥ 128 then (impl_takeNumber.l0 k x0 x1 (Go.bits .or .i64 x7 (shl .i64 (Int.tmod (wrap64 (rd x0 (wrap64 (x1 + x8)))) 128) (wrap64 (7 * x8)))) (wrap64 (x8 + 1))) else (if (Int.tmod (Go.bits .or .i64 x7 (shl .i64 (Int.tmod (wrap64 (rd x0 (wrap64 (x1 + x8)))) 128) (wrap64 (7 * x8)))) 2) = 1 then (if (wrap64 (rd x0 (wrap64 (x1 + x8)))) = 0 then (if x8 > 0 then (some (0, 0, false)) else (if (wrap64 (Int.tdiv (wrap64 (-(wrap64 ((Go.bits .or .i64 x7 (shl .i64 (Int.tmod (wrap64 (rd x0 (wrap64 (x1 + x8)))) 128) (wrap64 (7 * x8)))) + 1)))) 2)) < (-1099511627776) then (some (0, 0, false)) else (if (wrap64 (Int.tdiv (wrap64 (-(wrap64 ((Go.bits .or .i64 x7 (shl .i64 (Int.tmod (wrap64 (rd x0 (wrap64 (x1 + x8)))) 128) (wrap64 (7 * x8)))) + 1)))) 2)) > 1099511627776 then (some (0, 0, false)) else (some (wrap64 (Int.tdiv (wrap64 (-(wrap64 ((Go.bits .or .i64 x7 (shl .i64 (Int.tmod (wrap64 (rd x0 (wrap64 (x1 + x8)))) 128) (wrap64 (7 * x8)))) + 1)))) 2), wrap64 ((wrap64 (x1 + x8)) + 1), true))))) else (if (wrap64 (Int.tdiv (wrap64 (-(wrap64 ((Go.bits .or .i64 x7 (shl .i64 (Int.tmod (wrap64 (rd x0 (wrap64 (x1 + x8)))) 128) (wrap64 (7 * x8)))) + 1)))) 2)) < (-1099511627776) then (some (0, 0, false)) else (if (wrap64 (Int.tdiv (wrap64 (-(wrap64 ((Go.bits .or .i64 x7 (shl .i64 (Int.tmod (wrap64 (rd x0 (wrap64 (x1 + x8)))) 128) (wrap64 (7 * x8)))) + 1)))) 2)) > 1099511627776 then (some (0, 0, false)) else (some (wrap64 (Int.tdiv (wrap64 (-(wrap64 ((Go.bits .or .i64 x7 (shl .i64 (Int.tmod (wrap64 (rd x0 (wrap64 (x1 + x8)))) 128) (wrap64 (7 * x8)))) + 1)))) 2), wrap64 ((wrap64 (x1 + x8)) + 1), true))))) else (if (wrap64 (rd x0 (wrap64 (x1 + x8)))) = 0 then (if x8 > 0 then (some (0, 0, false)) else (if (wrap64 (Int.tdiv (Go.bits .or .i64 x7 (shl .i64 (Int.tmod (wrap64 (rd x0 (wrap64 (x1 + x8)))) 128) (wrap64 (7 * x8)))) 2)) < (-1099511627776) then (some (0, 0, false)) else (if (wrap64 (Int.tdiv (Go.bits .or .i64 x7 (shl .i64 (Int.tmod (wrap64 (rd x0 (wrap64 (x1 + x8)))) 128) (wrap64 (7 * x8)))) 2)) > 1099511627776 then (some (0, 0, false)) else (some (wrap64 (Int.tdiv (Go.bits .or .i64 x7 (shl .i64 (Int.tmod (wrap64 (rd x0 (wrap64 (x1 + x8)))) 128) (wrap64 (7 * x8)))) 2), wrap64 ((wrap64 (x1 + x8)) + 1), true))))) else (if (wrap64 (Int.tdiv (Go.bits .or .i64 x7 (shl .i64 (Int.tmod (wrap64 (rd x0 (wrap64 (x1 + x8)))) 128) (wrap64 (7 * x8)))) 2)) < (-1099511627776) then (some (0, 0, false)) else (if (wrap64 (Int.tdiv (Go.bits .or .i64 x7 (shl .i64 (Int.tmod (wrap64 (rd x0 (wrap64 (x1 + x8)))) 128) (wrap64 (7 * x8)))) 2)) > 1099511627776 then (some (0, 0, false)) else (some (wrap64 (Int.tdiv (Go.bits .or .i64 x7 (shl .i64 (Int.tmod (wrap64 (rd x0 (wrap64 (x1 + x8)))) 128) (wrap64 (7 * x8)))) 2), wrap64 ((wrap64 (x1 + x8)) + 1), true))))))) else (none)) else (none)) else (none)) else (some (0, 0, false))
end
def impl_takeNumber.f (k : Nat) (l0 : List Int) (a1 : Int) : Option (Int × Int × Bool) := if a1 < 0 then (some (0, 0, false)) else (impl_takeNumber.l0 k l0 a1 0 0)
theorem impl_takeNumber.mono_l : ∀ k, (∀ y0 y1 y2 y3, LeO (impl_takeNumber.l0 k y0 y1 y2 y3) (impl_takeNumber.l0 (k + 1) y0 y1 y2 y3)) ∧ (∀ y0 y1 y2 y3 y4, LeO (impl_takeNumber.j1 k y0 y1 y2 y3 y4) (impl_takeNumber.j1 (k + 1) y0 y1 y2 y3 y4))
 | 0 => ⟨fun _ _ _ _ r h => by simp [impl_takeNumber.l0] at h, fun _ _ _ _ _ r h => by simp [impl_takeNumber.j1] at h⟩
 | k + 1 => by
  obtain ⟨ih0, ih1⟩ := impl_takeNumber.mono_l k; refine ⟨?_, ?_⟩
  · intro y0 y1 y2 y3; unfold impl_takeNumber.l0; exact xq76
  · intro y0 y1 y2 y3 y4; unfold impl_takeNumber.j1; exact xq76
theorem impl_takeNumber.mono : ∀ a0 a1 k, LeO (impl_takeNumber.f k a0 a1) (impl_takeNumber.f (k + 1) a0 a1) := by
 intro a0 a1 k; obtain ⟨ih0, ih1⟩ := impl_takeNumber.mono_l k
 unfold impl_takeNumber.f
 exact xq76
theorem impl_takeNumber.calls (k : Nat) (A0 : Option Addr) (c0 : Nat) (l0 : List Int) (a1 : Int) (r1 : Int) (r2 : Int) (r3 : Bool) (w : World) (hr0 : Kd.C (Kd.int .u8) w A0 l0.length l0) (hc0 : l0.length ≤ c0) (h : impl_takeNumber.f k l0 a1 = some (r1, r2, r3)) :
 Calls Try.prog 85 #[.slice A0 l0.length c0, .int .i64 a1] w fun e w' => e = .returned (.tuple #[.int .i64 r1, .int .i64 r2, .bool r3]) ∧ Drawn0 w w' := by
 have HR0 := ak hr0; have HC0 := ak hc0; clear hr0 hc0; have H : (if a1 < 0 then (some (0, 0, false)) else (impl_takeNumber.l0 k l0 a1 0 0)) = some (r1, r2, r3) := h; clear h
 by_cases c3 : a1 < 0
 · rw [if_pos c3] at H; have c3b0 := decide_eq_true c3; clear c3; simp only [Option.some.injEq, Prod.mk.injEq] at H; obtain ⟨rfl, rfl, rfl⟩ := H; go_enter Try.func85, Try.ntmps85
   go_wp2
   go_ret3
   exact ⟨xq10, xq5⟩
 rw [if_neg c3] at H; have c3b0 := decide_eq_false c3; clear c3; have H' := ak H; clear H; go_enter Try.func85, Try.ntmps85
 go_wp2
 go_loopg [7, 8] k (fun kq v7 v8 w' => ∃ (x7_1 : Int) (x8_1 : Int), v7 = .int .i64 x7_1 ∧ v8 = .int .i64 x8_1 ∧ Aside0 (impl_takeNumber.l0 kq l0 a1 x7_1 x8_1 = some (r1, r2, r3)) ∧ Aside0 (kq ≤ k) ∧ Drawn0 w w')
 case atStart => exact ⟨(0), (0), eqA, eqA, H', ⟨Nat.le_refl _⟩, xq5⟩
 case round =>
  clear H'; obtain ⟨x7_1, x8_1, rfl, rfl, HA, HK1, ⟨m1, rfl⟩⟩ := hrel
  cases gk with
  | zero => exact absurd HA.out (by simp [impl_takeNumber.l0])
  | succ k1 =>
   have H := HA.out; clear HA; simp only [impl_takeNumber.l0] at H; have HC4 := ak H; clear H; go_upto_region 5 with (fail)
   go_cut [22] (fun v22 wc => ∃ (kq : Nat) (x22_3 : Bool), v22 = .bool x22_3 ∧ Aside0 (impl_takeNumber.j1 kq l0 a1 x7_1 x8_1 x22_3 = some (r1, r2, r3)) ∧ Aside0 (kq ≤ k1) ∧ Drawn0 w wc)
   case first =>
    have H := HC4.out; clear HC4
    by_cases c5 : x8_1 < 7; rotate_left
    · rw [if_neg c5] at H; have c5b0 := decide_eq_false c5; clear c5; (first | rw [c5b0] | (simp only [i64_w, i32_w]; rw [c5b0]) | skip)
      have H' := ak H; clear H; go_wp2
      go_meet
      case rel => exact ⟨_, (false), eqA, H', ⟨xq34⟩, xq5⟩
    rw [if_pos c5] at H; have c5b0 := decide_eq_true c5; clear c5; (first | rw [c5b0] | (simp only [i64_w, i32_w]; rw [c5b0]) | skip)
    have H' := ak H; clear H; go_wp2
    go_meet
    case rel => exact ⟨_, (decide ((wrap64 (a1 + x8_1)) < (l0.length : Int))), eqA, H', ⟨xq34⟩, xq5⟩
   case rest =>
    clear HC4; obtain ⟨kq, x22_3, rfl, HA, HJ3, ⟨mc3, rfl⟩⟩ := hcut
    cases kq with
    | zero => exact absurd HA.out (by simp [impl_takeNumber.j1])
    | succ kj3 =>
     have H := HA.out; clear HA; simp only [impl_takeNumber.j1] at H
     by_cases c6 : x22_3 = true; rotate_left
     · replace c6 := Bool.eq_false_iff.mpr c6; subst c6; have H1 : (some (0, 0, false)) = some (r1, r2, r3) := by rw [if_neg (show ¬ (false = true) by decide)] at H; exact H
       clear H; have H := H1; clear H1; simp only [Option.some.injEq, Prod.mk.injEq] at H; obtain ⟨rfl, rfl, rfl⟩ := H; go_wp2
       go_ret3
       exact ⟨xq10, xq5⟩
     subst c6; have H1 : (if 0 ≤ (wrap64 (a1 + x8_1)) then (if (wrap64 (a1 + x8_1)) < (l0.length : Int) then (if 0 ≤ (wrap64 (7 * x8_1)) then (if (wrap64 (rd l0 (wrap64 (a1 + x8_1)))) ≥ 128 then (impl_takeNumber.l0 kj3 l0 a1 (Go.bits .or .i64 x7_1 (shl .i64 (Int.tmod (wrap64 (rd l0 (wrap64 (a1 + x8_1)))) 128) (wrap64 (7 * x8_1)))) (wrap64 (x8_1 + 1))) else (if (Int.tmod (Go.bits .or .i64 x7_1 (shl .i64 (Int.tmod (wrap64 (rd l0 (wrap64 (a1 + x8_1)))) 128) (wrap64 (7 * x8_1)))) 2) = 1 then (if (wrap64 (rd l0 (wrap64 (a1 + x8_1)))) = 0 then (if x8_1 > 0 then (some (0, 0, false)) else (if (wrap64 (Int.tdiv (wrap64 (-(wrap64 ((Go.bits .or .i64 x7_1 (shl .i64 (Int.tmod (wrap64 (rd l0 (wrap64 (a1 + x8_1)))) 128) (wrap64 (7 * x8_1)))) + 1)))) 2)) < (-1099511627776) then (some (0, 0, false)) else (if (wrap64 (Int.tdiv (wrap64 (-(wrap64 ((Go.bits .or .i64 x7_1 (shl .i64 (Int.tmod (wrap64 (rd l0 (wrap64 (a1 + x8_1)))) 128) (wrap64 (7 * x8_1)))) + 1)))) 2)) > 1099511627776 then (some (0, 0, false)) else (some (wrap64 (Int.tdiv (wrap64 (-(wrap64 ((Go.bits .or .i64 x7_1 (shl .i64 (Int.tmod (wrap64 (rd l0 (wrap64 (a1 + x8_1)))) 128) (wrap64 (7 * x8_1)))) + 1)))) 2), wrap64 ((wrap64 (a1 + x8_1)) + 1), true))))) else (if (wrap64 (Int.tdiv (wrap64 (-(wrap64 ((Go.bits .or .i64 x7_1 (shl .i64 (Int.tmod (wrap64 (rd l0 (wrap64 (a1 + x8_1)))) 128) (wrap64 (7 * x8_1)))) + 1)))) 2)) < (-1099511627776) then (some (0, 0, false)) else (if (wrap64 (Int.tdiv (wrap64 (-(wrap64 ((Go.bits .or .i64 x7_1 (shl .i64 (Int.tmod (wrap64 (rd l0 (wrap64 (a1 + x8_1)))) 128) (wrap64 (7 * x8_1)))) + 1)))) 2)) > 1099511627776 then (some (0, 0, false)) else (some (wrap64 (Int.tdiv (wrap64 (-(wrap64 ((Go.bits .or .i64 x7_1 (shl .i64 (Int.tmod (wrap64 (rd l0 (wrap64 (a1 + x8_1)))) 128) (wrap64 (7 * x8_1)))) + 1)))) 2), wrap64 ((wrap64 (a1 + x8_1)) + 1), true))))) else (if (wrap64 (rd l0 (wrap64 (a1 + x8_1)))) = 0 then (if x8_1 > 0 then (some (0, 0, false)) else (if (wrap64 (Int.tdiv (Go.bits .or .i64 x7_1 (shl .i64 (Int.tmod (wrap64 (rd l0 (wrap64 (a1 + x8_1)))) 128) (wrap64 (7 * x8_1)))) 2)) < (-1099511627776) then (some (0, 0, false)) else (if (wrap64 (Int.tdiv (Go.bits .or .i64 x7_1 (shl .i64 (Int.tmod (wrap64 (rd l0 (wrap64 (a1 + x8_1)))) 128) (wrap64 (7 * x8_1)))) 2)) > 1099511627776 then (some (0, 0, false)) else (some (wrap64 (Int.tdiv (Go.bits .or .i64 x7_1 (shl .i64 (Int.tmod (wrap64 (rd l0 (wrap64 (a1 + x8_1)))) 128) (wrap64 (7 * x8_1)))) 2), wrap64 ((wrap64 (a1 + x8_1)) + 1), true))))) else (if (wrap64 (Int.tdiv (Go.bits .or .i64 x7_1 (shl .i64 (Int.tmod (wrap64 (rd l0 (wrap64 (a1 + x8_1)))) 128) (wrap64 (7 * x8_1)))) 2)) < (-1099511627776) then (some (0, 0, false)) else (if (wrap64 (Int.tdiv (Go.bits .or .i64 x7_1 (shl .i64 (Int.tmod (wrap64 (rd l0 (wrap64 (a1 + x8_1)))) 128) (wrap64 (7 * x8_1)))) 2)) > 1099511627776 then (some (0, 0, false)) else (some (wrap64 (Int.tdiv (Go.bits .or .i64 x7_1 (shl .i64 (Int.tmod (wrap64 (rd l0 (wrap64 (a1 + x8_1)))) 128) (wrap64 (7 * x8_1)))) 2), wrap64 ((wrap64 (a1 + x8_1)) + 1), true))))))) else (none)) else (none)) else (none)) = some (r1, r2, r3) := by rw [if_pos rfl] at H; exact H
     clear H; have H := H1; clear H1; obtain ⟨ji7, hji7⟩ : ∃ j_ : Int, (wrap64 (a1 + x8_1)) = j_ := ⟨_, rfl⟩; replace H : (if 0 ≤ (ji7) then (if (ji7) < (l0.length : Int) then (if 0 ≤ (wrap64 (7 * x8_1)) then (if (wrap64 (rd l0 (ji7))) ≥ 128 then (impl_takeNumber.l0 kj3 l0 a1 (Go.bits .or .i64 x7_1 (shl .i64 (Int.tmod (wrap64 (rd l0 (ji7))) 128) (wrap64 (7 * x8_1)))) (wrap64 (x8_1 + 1))) else (if (Int.tmod (Go.bits .or .i64 x7_1 (shl .i64 (Int.tmod (wrap64 (rd l0 (ji7))) 128) (wrap64 (7 * x8_1)))) 2) = 1 then (if (wrap64 (rd l0 (ji7))) = 0 then (if x8_1 > 0 then (some (0, 0, false)) else (if (wrap64 (Int.tdiv (wrap64 (-(wrap64 ((Go.bits .or .i64 x7_1 (shl .i64 (Int.tmod (wrap64 (rd l0 (ji7))) 128) (wrap64 (7 * x8_1)))) + 1)))) 2)) < (-1099511627776) then (some (0, 0, false)) else (if (wrap64 (Int.tdiv (wrap64 (-(wrap64 ((Go.bits .or .i64 x7_1 (shl .i64 (Int.tmod (wrap64 (rd l0 (ji7))) 128) (wrap64 (7 * x8_1)))) + 1)))) 2)) > 1099511627776 then (some (0, 0, false)) else (some (wrap64 (Int.tdiv (wrap64 (-(wrap64 ((Go.bits .or .i64 x7_1 (shl .i64 (Int.tmod (wrap64 (rd l0 (ji7))) 128) (wrap64 (7 * x8_1)))) + 1)))) 2), wrap64 ((ji7) + 1), true))))) else (if (wrap64 (Int.tdiv (wrap64 (-(wrap64 ((Go.bits .or .i64 x7_1 (shl .i64 (Int.tmod (wrap64 (rd l0 (ji7))) 128) (wrap64 (7 * x8_1)))) + 1)))) 2)) < (-1099511627776) then (some (0, 0, false)) else (if (wrap64 (Int.tdiv (wrap64 (-(wrap64 ((Go.bits .or .i64 x7_1 (shl .i64 (Int.tmod (wrap64 (rd l0 (ji7))) 128) (wrap64 (7 * x8_1)))) + 1)))) 2)) > 1099511627776 then (some (0, 0, false)) else (some (wrap64 (Int.tdiv (wrap64 (-(wrap64 ((Go.bits .or .i64 x7_1 (shl .i64 (Int.tmod (wrap64 (rd l0 (ji7))) 128) (wrap64 (7 * x8_1)))) + 1)))) 2), wrap64 ((ji7) + 1), true))))) else (if (wrap64 (rd l0 (ji7))) = 0 then (if x8_1 > 0 then (some (0, 0, false)) else (if (wrap64 (Int.tdiv (Go.bits .or .i64 x7_1 (shl .i64 (Int.tmod (wrap64 (rd l0 (ji7))) 128) (wrap64 (7 * x8_1)))) 2)) < (-1099511627776) then (some (0, 0, false)) else (if (wrap64 (Int.tdiv (Go.bits .or .i64 x7_1 (shl .i64 (Int.tmod (wrap64 (rd l0 (ji7))) 128) (wrap64 (7 * x8_1)))) 2)) > 1099511627776 then (some (0, 0, false)) else (some (wrap64 (Int.tdiv (Go.bits .or .i64 x7_1 (shl .i64 (Int.tmod (wrap64 (rd l0 (ji7))) 128) (wrap64 (7 * x8_1)))) 2), wrap64 ((ji7) + 1), true))))) else (if (wrap64 (Int.tdiv (Go.bits .or .i64 x7_1 (shl .i64 (Int.tmod (wrap64 (rd l0 (ji7))) 128) (wrap64 (7 * x8_1)))) 2)) < (-1099511627776) then (some (0, 0, false)) else (if (wrap64 (Int.tdiv (Go.bits .or .i64 x7_1 (shl .i64 (Int.tmod (wrap64 (rd l0 (ji7))) 128) (wrap64 (7 * x8_1)))) 2)) > 1099511627776 then (some (0, 0, false)) else (some (wrap64 (Int.tdiv (Go.bits .or .i64 x7_1 (shl .i64 (Int.tmod (wrap64 (rd l0 (ji7))) 128) (wrap64 (7 * x8_1)))) 2), wrap64 ((ji7) + 1), true))))))) else (none)) else (none)) else (none)) = some (r1, r2, r3) := by first | (rw [hji7] at H; exact H) | (simp only [hji7] at H ⊢; exact H)
     have hji7w : (IntKind.i64.wrap (a1 + x8_1)) = ji7 := (i64_w _).trans hji7
     by_cases c8 : 0 ≤ (ji7); rotate_left
     · rw [if_neg c8] at H; exact absurd H (by simp)
     rw [if_pos c8] at H; have c8b0 := decide_eq_true c8; clear c8
     by_cases c9 : (ji7) < (l0.length : Int); rotate_left
     · rw [if_neg c9] at H; exact absurd H (by simp)
     rw [if_pos c9] at H; have c9b0 := decide_eq_true c9; clear c9; obtain ⟨ji10, hji10⟩ : ∃ j_ : Int, (wrap64 (7 * x8_1)) = j_ := ⟨_, rfl⟩; replace H : (if 0 ≤ (ji10) then (if (wrap64 (rd l0 (ji7))) ≥ 128 then (impl_takeNumber.l0 kj3 l0 a1 (Go.bits .or .i64 x7_1 (shl .i64 (Int.tmod (wrap64 (rd l0 (ji7))) 128) (ji10))) (wrap64 (x8_1 + 1))) else (if (Int.tmod (Go.bits .or .i64 x7_1 (shl .i64 (Int.tmod (wrap64 (rd l0 (ji7))) 128) (ji10))) 2) = 1 then (if (wrap64 (rd l0 (ji7))) = 0 then (if x8_1 > 0 then (some (0, 0, false)) else (if (wrap64 (Int.tdiv (wrap64 (-(wrap64 ((Go.bits .or .i64 x7_1 (shl .i64 (Int.tmod (wrap64 (rd l0 (ji7))) 128) (ji10))) + 1)))) 2)) < (-1099511627776) then (some (0, 0, false)) else (if (wrap64 (Int.tdiv (wrap64 (-(wrap64 ((Go.bits .or .i64 x7_1 (shl .i64 (Int.tmod (wrap64 (rd l0 (ji7))) 128) (ji10))) + 1)))) 2)) > 1099511627776 then (some (0, 0, false)) else (some (wrap64 (Int.tdiv (wrap64 (-(wrap64 ((Go.bits .or .i64 x7_1 (shl .i64 (Int.tmod (wrap64 (rd l0 (ji7))) 128) (ji10))) + 1)))) 2), wrap64 ((ji7) + 1), true))))) else (if (wrap64 (Int.tdiv (wrap64 (-(wrap64 ((Go.bits .or .i64 x7_1 (shl .i64 (Int.tmod (wrap64 (rd l0 (ji7))) 128) (ji10))) + 1)))) 2)) < (-1099511627776) then (some (0, 0, false)) else (if (wrap64 (Int.tdiv (wrap64 (-(wrap64 ((Go.bits .or .i64 x7_1 (shl .i64 (Int.tmod (wrap64 (rd l0 (ji7))) 128) (ji10))) + 1)))) 2)) > 1099511627776 then (some (0, 0, false)) else (some (wrap64 (Int.tdiv (wrap64 (-(wrap64 ((Go.bits .or .i64 x7_1 (shl .i64 (Int.tmod (wrap64 (rd l0 (ji7))) 128) (ji10))) + 1)))) 2), wrap64 ((ji7) + 1), true))))) else (if (wrap64 (rd l0 (ji7))) = 0 then (if x8_1 > 0 then (some (0, 0, false)) else (if (wrap64 (Int.tdiv (Go.bits .or .i64 x7_1 (shl .i64 (Int.tmod (wrap64 (rd l0 (ji7))) 128) (ji10))) 2)) < (-1099511627776) then (some (0, 0, false)) else (if (wrap64 (Int.tdiv (Go.bits .or .i64 x7_1 (shl .i64 (Int.tmod (wrap64 (rd l0 (ji7))) 128) (ji10))) 2)) > 1099511627776 then (some (0, 0, false)) else (some (wrap64 (Int.tdiv (Go.bits .or .i64 x7_1 (shl .i64 (Int.tmod (wrap64 (rd l0 (ji7))) 128) (ji10))) 2), wrap64 ((ji7) + 1), true))))) else (if (wrap64 (Int.tdiv (Go.bits .or .i64 x7_1 (shl .i64 (Int.tmod (wrap64 (rd l0 (ji7))) 128) (ji10))) 2)) < (-1099511627776) then (some (0, 0, false)) else (if (wrap64 (Int.tdiv (Go.bits .or .i64 x7_1 (shl .i64 (Int.tmod (wrap64 (rd l0 (ji7))) 128) (ji10))) 2)) > 1099511627776 then (some (0, 0, false)) else (some (wrap64 (Int.tdiv (Go.bits .or .i64 x7_1 (shl .i64 (Int.tmod (wrap64 (rd l0 (ji7))) 128) (ji10))) 2), wrap64 ((ji7) + 1), true))))))) else (none)) = some (r1, r2, r3) := by first | (rw [hji10] at H; exact H) | (simp only [hji10] at H ⊢; exact H)
     have hji10w : (IntKind.i64.wrap (7 * x8_1)) = ji10 := (i64_w _).trans hji10
     by_cases c11 : 0 ≤ (ji10); rotate_left
     · rw [if_neg c11] at H; exact absurd H (by simp)
     rw [if_pos c11] at H; have c11b0 := eq_true c11; have c11b1 : decide (0 ≤ (ji10)) = true := decide_eq_true c11; clear c11; obtain ⟨ji12, hji12⟩ : ∃ j_ : Int, (shl .i64 (Int.tmod (wrap64 (rd l0 (ji7))) 128) (ji10)) = j_ := ⟨_, rfl⟩; replace H : (if (wrap64 (rd l0 (ji7))) ≥ 128 then (impl_takeNumber.l0 kj3 l0 a1 (Go.bits .or .i64 x7_1 (ji12)) (wrap64 (x8_1 + 1))) else (if (Int.tmod (Go.bits .or .i64 x7_1 (ji12)) 2) = 1 then (if (wrap64 (rd l0 (ji7))) = 0 then (if x8_1 > 0 then (some (0, 0, false)) else (if (wrap64 (Int.tdiv (wrap64 (-(wrap64 ((Go.bits .or .i64 x7_1 (ji12)) + 1)))) 2)) < (-1099511627776) then (some (0, 0, false)) else (if (wrap64 (Int.tdiv (wrap64 (-(wrap64 ((Go.bits .or .i64 x7_1 (ji12)) + 1)))) 2)) > 1099511627776 then (some (0, 0, false)) else (some (wrap64 (Int.tdiv (wrap64 (-(wrap64 ((Go.bits .or .i64 x7_1 (ji12)) + 1)))) 2), wrap64 ((ji7) + 1), true))))) else (if (wrap64 (Int.tdiv (wrap64 (-(wrap64 ((Go.bits .or .i64 x7_1 (ji12)) + 1)))) 2)) < (-1099511627776) then (some (0, 0, false)) else (if (wrap64 (Int.tdiv (wrap64 (-(wrap64 ((Go.bits .or .i64 x7_1 (ji12)) + 1)))) 2)) > 1099511627776 then (some (0, 0, false)) else (some (wrap64 (Int.tdiv (wrap64 (-(wrap64 ((Go.bits .or .i64 x7_1 (ji12)) + 1)))) 2), wrap64 ((ji7) + 1), true))))) else (if (wrap64 (rd l0 (ji7))) = 0 then (if x8_1 > 0 then (some (0, 0, false)) else (if (wrap64 (Int.tdiv (Go.bits .or .i64 x7_1 (ji12)) 2)) < (-1099511627776) then (some (0, 0, false)) else (if (wrap64 (Int.tdiv (Go.bits .or .i64 x7_1 (ji12)) 2)) > 1099511627776 then (some (0, 0, false)) else (some (wrap64 (Int.tdiv (Go.bits .or .i64 x7_1 (ji12)) 2), wrap64 ((ji7) + 1), true))))) else (if (wrap64 (Int.tdiv (Go.bits .or .i64 x7_1 (ji12)) 2)) < (-1099511627776) then (some (0, 0, false)) else (if (wrap64 (Int.tdiv (Go.bits .or .i64 x7_1 (ji12)) 2)) > 1099511627776 then (some (0, 0, false)) else (some (wrap64 (Int.tdiv (Go.bits .or .i64 x7_1 (ji12)) 2), wrap64 ((ji7) + 1), true))))))) = some (r1, r2, r3) := by first | (rw [hji12] at H; exact H) | (simp only [hji12] at H ⊢; exact H)
     have hji12_ : (IntKind.i64.wrap ((Int.tmod (wrap64 (rd l0 (ji7))) 128) * 2 ^ min (ji10).toNat 64)) = ji12 := hji12; have hji12z : (ji10) ≤ 64 → (IntKind.i64.wrap ((Int.tmod (wrap64 (rd l0 (ji7))) 128) * 2 ^ (ji10).toNat)) = ji12 := shl_small hji12; have hji12y : (wrap64 ((Int.tmod (wrap64 (rd l0 (ji7))) 128) * 2 ^ min (ji10).toNat 64)) = ji12 := (i64_w _).symm.trans hji12_; have hji12x : (ji10) ≤ 64 → (wrap64 ((Int.tmod (wrap64 (rd l0 (ji7))) 128) * 2 ^ (ji10).toNat)) = ji12 := fun h_ => (i64_w _).symm.trans (hji12z h_)
     by_cases c13 : (wrap64 (rd l0 (ji7))) ≥ 128
     · rw [if_pos c13] at H; have c13b0 : decide (128 ≤ (wrap64 (rd l0 (ji7)))) = true := decide_eq_true c13; have c13b0w : decide (128 ≤ (IntKind.i64.wrap (rd l0 (ji7)))) = true := by simp only [i64_w]; exact c13b0
       clear c13; have H' := ak H; clear H; have p588 : 0 ≤ ((ji7) : Int) := odA; have q588 : (ji7) < (l0.length : Int) := odA; obtain ⟨ad588, e588, hx588_0⟩ := Kd.at_int HR0.out (ji7) p588 q588
       cases e588
       replace p588 := eq_true p588; replace q588 := eq_true q588; go_wp2
       go_roundg kj3
       case measure => have := HK1.out; have := HJ3.out; omega
       case rel => exact ⟨(Go.bits .or .i64 x7_1 (ji12)), (wrap64 (x8_1 + 1)), (by first | rfl | (simp; done) | (simp only [← hji12] <;> (first | rfl | simp)) | (simp [*]; done)), eqA, H', ⟨by have := HK1.out; have := HJ3.out; omega⟩, xq5⟩
     rw [if_neg c13] at H; have c13b0 : decide (128 ≤ (wrap64 (rd l0 (ji7)))) = false := decide_eq_false c13; have c13b0w : decide (128 ≤ (IntKind.i64.wrap (rd l0 (ji7)))) = false := by simp only [i64_w]; exact c13b0
     clear c13
     by_cases c14 : (Int.tmod (Go.bits .or .i64 x7_1 (ji12)) 2) = 1; rotate_left
     · rw [if_neg c14] at H; have c14b0 : ((Int.tmod (Go.bits .or .i64 x7_1 (ji12)) 2) == 1) = false := beq_eq_false_iff_ne.mpr c14; have c14b1 : ((Int.tmod (Go.bits .or .i64 x7_1 (ji12)) 2) != 1) = true := bne_iff_ne.mpr c14
       by_cases c21 : (wrap64 (rd l0 (ji7))) = 0; rotate_left
       · rw [if_neg c21] at H; have c21b0 : ((wrap64 (rd l0 (ji7))) == 0) = false := beq_eq_false_iff_ne.mpr c21; have c21b1 : ((wrap64 (rd l0 (ji7))) != 0) = true := bne_iff_ne.mpr c21
         by_cases c25 : (wrap64 (Int.tdiv (Go.bits .or .i64 x7_1 (ji12)) 2)) < (-1099511627776)
         · rw [if_pos c25] at H; have c25b0 := decide_eq_true c25; have c25b0w : decide ((IntKind.i64.wrap (Int.tdiv (Go.bits .or .i64 x7_1 (ji12)) 2)) < (-1099511627776)) = true := by simp only [i64_w]; exact c25b0
           clear c25; simp only [Option.some.injEq, Prod.mk.injEq] at H; obtain ⟨rfl, rfl, rfl⟩ := H; have p588 : 0 ≤ ((ji7) : Int) := odA; have q588 : (ji7) < (l0.length : Int) := odA; obtain ⟨ad588, e588, hx588_0⟩ := Kd.at_int HR0.out (ji7) p588 q588
           cases e588
           replace p588 := eq_true p588; replace q588 := eq_true q588; go_wp2
           go_ret3
           exact ⟨xq24, xq5⟩
         rw [if_neg c25] at H; have c25b0 := decide_eq_false c25; have c25b0w : decide ((IntKind.i64.wrap (Int.tdiv (Go.bits .or .i64 x7_1 (ji12)) 2)) < (-1099511627776)) = false := by simp only [i64_w]; exact c25b0
         clear c25
         by_cases c26 : (wrap64 (Int.tdiv (Go.bits .or .i64 x7_1 (ji12)) 2)) > 1099511627776
         · rw [if_pos c26] at H; have c26b0 : decide (1099511627776 < (wrap64 (Int.tdiv (Go.bits .or .i64 x7_1 (ji12)) 2))) = true := decide_eq_true c26; have c26b0w : decide (1099511627776 < (IntKind.i64.wrap (Int.tdiv (Go.bits .or .i64 x7_1 (ji12)) 2))) = true := by simp only [i64_w]; exact c26b0
           clear c26; simp only [Option.some.injEq, Prod.mk.injEq] at H; obtain ⟨rfl, rfl, rfl⟩ := H; have p588 : 0 ≤ ((ji7) : Int) := odA; have q588 : (ji7) < (l0.length : Int) := odA; obtain ⟨ad588, e588, hx588_0⟩ := Kd.at_int HR0.out (ji7) p588 q588
           cases e588
           replace p588 := eq_true p588; replace q588 := eq_true q588; go_wp2
           go_ret3
           exact ⟨xq24, xq5⟩
         rw [if_neg c26] at H; have c26b0 : decide (1099511627776 < (wrap64 (Int.tdiv (Go.bits .or .i64 x7_1 (ji12)) 2))) = false := decide_eq_false c26; have c26b0w : decide (1099511627776 < (IntKind.i64.wrap (Int.tdiv (Go.bits .or .i64 x7_1 (ji12)) 2))) = false := by simp only [i64_w]; exact c26b0
         clear c26; simp only [Option.some.injEq, Prod.mk.injEq] at H; obtain ⟨rfl, rfl, rfl⟩ := H; have p588 : 0 ≤ ((ji7) : Int) := odA; have q588 : (ji7) < (l0.length : Int) := odA; obtain ⟨ad588, e588, hx588_0⟩ := Kd.at_int HR0.out (ji7) p588 q588
         cases e588
         replace p588 := eq_true p588; replace q588 := eq_true q588; go_wp2
         go_ret3
         exact ⟨xq24, xq5⟩
       rw [if_pos c21] at H; have c21b0 : ((wrap64 (rd l0 (ji7))) == 0) = true := beq_iff_eq.mpr c21; have c21b1 : ((wrap64 (rd l0 (ji7))) != 0) = false := bne_eq_false_iff_eq.mpr c21; clear c21
       by_cases c22 : x8_1 > 0
       · rw [if_pos c22] at H; have c22b0 : decide (0 < x8_1) = true := decide_eq_true c22; clear c22; simp only [Option.some.injEq, Prod.mk.injEq] at H; obtain ⟨rfl, rfl, rfl⟩ := H; have p588 : 0 ≤ ((ji7) : Int) := odA; have q588 : (ji7) < (l0.length : Int) := odA; obtain ⟨ad588, e588, hx588_0⟩ := Kd.at_int HR0.out (ji7) p588 q588
         cases e588
         replace p588 := eq_true p588; replace q588 := eq_true q588; go_wp2
         go_ret3
         exact ⟨xq24, xq5⟩
       rw [if_neg c22] at H; have c22b0 : decide (0 < x8_1) = false := decide_eq_false c22; clear c22
       by_cases c23 : (wrap64 (Int.tdiv (Go.bits .or .i64 x7_1 (ji12)) 2)) < (-1099511627776)
       · rw [if_pos c23] at H; have c23b0 := decide_eq_true c23; have c23b0w : decide ((IntKind.i64.wrap (Int.tdiv (Go.bits .or .i64 x7_1 (ji12)) 2)) < (-1099511627776)) = true := by simp only [i64_w]; exact c23b0
         clear c23; simp only [Option.some.injEq, Prod.mk.injEq] at H; obtain ⟨rfl, rfl, rfl⟩ := H; have p588 : 0 ≤ ((ji7) : Int) := odA; have q588 : (ji7) < (l0.length : Int) := odA; obtain ⟨ad588, e588, hx588_0⟩ := Kd.at_int HR0.out (ji7) p588 q588
         cases e588
         replace p588 := eq_true p588; replace q588 := eq_true q588; go_wp2
         go_ret3
         exact ⟨xq24, xq5⟩
       rw [if_neg c23] at H; have c23b0 := decide_eq_false c23; have c23b0w : decide ((IntKind.i64.wrap (Int.tdiv (Go.bits .or .i64 x7_1 (ji12)) 2)) < (-1099511627776)) = false := by simp only [i64_w]; exact c23b0
       clear c23
       by_cases c24 : (wrap64 (Int.tdiv (Go.bits .or .i64 x7_1 (ji12)) 2)) > 1099511627776
       · rw [if_pos c24] at H; have c24b0 : decide (1099511627776 < (wrap64 (Int.tdiv (Go.bits .or .i64 x7_1 (ji12)) 2))) = true := decide_eq_true c24; have c24b0w : decide (1099511627776 < (IntKind.i64.wrap (Int.tdiv (Go.bits .or .i64 x7_1 (ji12)) 2))) = true := by simp only [i64_w]; exact c24b0
         clear c24; simp only [Option.some.injEq, Prod.mk.injEq] at H; obtain ⟨rfl, rfl, rfl⟩ := H; have p588 : 0 ≤ ((ji7) : Int) := odA; have q588 : (ji7) < (l0.length : Int) := odA; obtain ⟨ad588, e588, hx588_0⟩ := Kd.at_int HR0.out (ji7) p588 q588
         cases e588
         replace p588 := eq_true p588; replace q588 := eq_true q588; go_wp2
         go_ret3
         exact ⟨xq24, xq5⟩
       rw [if_neg c24] at H; have c24b0 : decide (1099511627776 < (wrap64 (Int.tdiv (Go.bits .or .i64 x7_1 (ji12)) 2))) = false := decide_eq_false c24; have c24b0w : decide (1099511627776 < (IntKind.i64.wrap (Int.tdiv (Go.bits .or .i64 x7_1 (ji12)) 2))) = false := by simp only [i64_w]; exact c24b0
       clear c24; simp only [Option.some.injEq, Prod.mk.injEq] at H; obtain ⟨rfl, rfl, rfl⟩ := H; have p588 : 0 ≤ ((ji7) : Int) := odA; have q588 : (ji7) < (l0.length : Int) := odA; obtain ⟨ad588, e588, hx588_0⟩ := Kd.at_int HR0.out (ji7) p588 q588
       cases e588
       replace p588 := eq_true p588; replace q588 := eq_true q588; go_wp2
       go_ret3
       exact ⟨xq24, xq5⟩
     rw [if_pos c14] at H; have c14b0 : ((Int.tmod (Go.bits .or .i64 x7_1 (ji12)) 2) == 1) = true := beq_iff_eq.mpr c14; have c14b1 : ((Int.tmod (Go.bits .or .i64 x7_1 (ji12)) 2) != 1) = false := bne_eq_false_iff_eq.mpr c14; clear c14
     by_cases c15 : (wrap64 (rd l0 (ji7))) = 0; rotate_left
     · rw [if_neg c15] at H; have c15b0 : ((wrap64 (rd l0 (ji7))) == 0) = false := beq_eq_false_iff_ne.mpr c15; have c15b1 : ((wrap64 (rd l0 (ji7))) != 0) = true := bne_iff_ne.mpr c15
       by_cases c19 : (wrap64 (Int.tdiv (wrap64 (-(wrap64 ((Go.bits .or .i64 x7_1 (ji12)) + 1)))) 2)) < (-1099511627776)
       · rw [if_pos c19] at H; have c19b0 := decide_eq_true c19; have c19b0w : decide ((IntKind.i64.wrap (Int.tdiv (IntKind.i64.wrap (-(IntKind.i64.wrap ((Go.bits .or .i64 x7_1 (ji12)) + 1)))) 2)) < (-1099511627776)) = true := by simp only [i64_w]; exact c19b0
         clear c19; simp only [Option.some.injEq, Prod.mk.injEq] at H; obtain ⟨rfl, rfl, rfl⟩ := H; have p588 : 0 ≤ ((ji7) : Int) := odA; have q588 : (ji7) < (l0.length : Int) := odA; obtain ⟨ad588, e588, hx588_0⟩ := Kd.at_int HR0.out (ji7) p588 q588
         cases e588
         replace p588 := eq_true p588; replace q588 := eq_true q588; go_wp2
         go_ret3
         exact ⟨xq24, xq5⟩
       rw [if_neg c19] at H; have c19b0 := decide_eq_false c19; have c19b0w : decide ((IntKind.i64.wrap (Int.tdiv (IntKind.i64.wrap (-(IntKind.i64.wrap ((Go.bits .or .i64 x7_1 (ji12)) + 1)))) 2)) < (-1099511627776)) = false := by simp only [i64_w]; exact c19b0
       clear c19
       by_cases c20 : (wrap64 (Int.tdiv (wrap64 (-(wrap64 ((Go.bits .or .i64 x7_1 (ji12)) + 1)))) 2)) > 1099511627776
       · rw [if_pos c20] at H; have c20b0 : decide (1099511627776 < (wrap64 (Int.tdiv (wrap64 (-(wrap64 ((Go.bits .or .i64 x7_1 (ji12)) + 1)))) 2))) = true := decide_eq_true c20; have c20b0w : decide (1099511627776 < (IntKind.i64.wrap (Int.tdiv (IntKind.i64.wrap (-(IntKind.i64.wrap ((Go.bits .or .i64 x7_1 (ji12)) + 1)))) 2))) = true := by simp only [i64_w]; exact c20b0
         clear c20; simp only [Option.some.injEq, Prod.mk.injEq] at H; obtain ⟨rfl, rfl, rfl⟩ := H; have p588 : 0 ≤ ((ji7) : Int) := odA; have q588 : (ji7) < (l0.length : Int) := odA; obtain ⟨ad588, e588, hx588_0⟩ := Kd.at_int HR0.out (ji7) p588 q588
         cases e588
         replace p588 := eq_true p588; replace q588 := eq_true q588; go_wp2
         go_ret3
         exact ⟨xq24, xq5⟩
       rw [if_neg c20] at H; have c20b0 : decide (1099511627776 < (wrap64 (Int.tdiv (wrap64 (-(wrap64 ((Go.bits .or .i64 x7_1 (ji12)) + 1)))) 2))) = false := decide_eq_false c20; have c20b0w : decide (1099511627776 < (IntKind.i64.wrap (Int.tdiv (IntKind.i64.wrap (-(IntKind.i64.wrap ((Go.bits .or .i64 x7_1 (ji12)) + 1)))) 2))) = false := by simp only [i64_w]; exact c20b0
       clear c20; simp only [Option.some.injEq, Prod.mk.injEq] at H; obtain ⟨rfl, rfl, rfl⟩ := H; have p588 : 0 ≤ ((ji7) : Int) := odA; have q588 : (ji7) < (l0.length : Int) := odA; obtain ⟨ad588, e588, hx588_0⟩ := Kd.at_int HR0.out (ji7) p588 q588
       cases e588
       replace p588 := eq_true p588; replace q588 := eq_true q588; go_wp2
       go_ret3
       exact ⟨xq24, xq5⟩
     rw [if_pos c15] at H; have c15b0 : ((wrap64 (rd l0 (ji7))) == 0) = true := beq_iff_eq.mpr c15; have c15b1 : ((wrap64 (rd l0 (ji7))) != 0) = false := bne_eq_false_iff_eq.mpr c15; clear c15
     by_cases c16 : x8_1 > 0
     · rw [if_pos c16] at H; have c16b0 : decide (0 < x8_1) = true := decide_eq_true c16; clear c16; simp only [Option.some.injEq, Prod.mk.injEq] at H; obtain ⟨rfl, rfl, rfl⟩ := H; have p588 : 0 ≤ ((ji7) : Int) := odA; have q588 : (ji7) < (l0.length : Int) := odA; obtain ⟨ad588, e588, hx588_0⟩ := Kd.at_int HR0.out (ji7) p588 q588
       cases e588
       replace p588 := eq_true p588; replace q588 := eq_true q588; go_wp2
       go_ret3
       exact ⟨xq24, xq5⟩
     rw [if_neg c16] at H; have c16b0 : decide (0 < x8_1) = false := decide_eq_false c16; clear c16
     by_cases c17 : (wrap64 (Int.tdiv (wrap64 (-(wrap64 ((Go.bits .or .i64 x7_1 (ji12)) + 1)))) 2)) < (-1099511627776)
     · rw [if_pos c17] at H; have c17b0 := decide_eq_true c17; have c17b0w : decide ((IntKind.i64.wrap (Int.tdiv (IntKind.i64.wrap (-(IntKind.i64.wrap ((Go.bits .or .i64 x7_1 (ji12)) + 1)))) 2)) < (-1099511627776)) = true := by simp only [i64_w]; exact c17b0
       clear c17; simp only [Option.some.injEq, Prod.mk.injEq] at H; obtain ⟨rfl, rfl, rfl⟩ := H; have p588 : 0 ≤ ((ji7) : Int) := odA; have q588 : (ji7) < (l0.length : Int) := odA; obtain ⟨ad588, e588, hx588_0⟩ := Kd.at_int HR0.out (ji7) p588 q588
       cases e588
       replace p588 := eq_true p588; replace q588 := eq_true q588; go_wp2
       go_ret3
       exact ⟨xq24, xq5⟩
     rw [if_neg c17] at H; have c17b0 := decide_eq_false c17; have c17b0w : decide ((IntKind.i64.wrap (Int.tdiv (IntKind.i64.wrap (-(IntKind.i64.wrap ((Go.bits .or .i64 x7_1 (ji12)) + 1)))) 2)) < (-1099511627776)) = false := by simp only [i64_w]; exact c17b0
     clear c17
     by_cases c18 : (wrap64 (Int.tdiv (wrap64 (-(wrap64 ((Go.bits .or .i64 x7_1 (ji12)) + 1)))) 2)) > 1099511627776
     · rw [if_pos c18] at H; have c18b0 : decide (1099511627776 < (wrap64 (Int.tdiv (wrap64 (-(wrap64 ((Go.bits .or .i64 x7_1 (ji12)) + 1)))) 2))) = true := decide_eq_true c18; have c18b0w : decide (1099511627776 < (IntKind.i64.wrap (Int.tdiv (IntKind.i64.wrap (-(IntKind.i64.wrap ((Go.bits .or .i64 x7_1 (ji12)) + 1)))) 2))) = true := by simp only [i64_w]; exact c18b0
       clear c18; simp only [Option.some.injEq, Prod.mk.injEq] at H; obtain ⟨rfl, rfl, rfl⟩ := H; have p588 : 0 ≤ ((ji7) : Int) := odA; have q588 : (ji7) < (l0.length : Int) := odA; obtain ⟨ad588, e588, hx588_0⟩ := Kd.at_int HR0.out (ji7) p588 q588
       cases e588
       replace p588 := eq_true p588; replace q588 := eq_true q588; go_wp2
       go_ret3
       exact ⟨xq24, xq5⟩
     rw [if_neg c18] at H; have c18b0 : decide (1099511627776 < (wrap64 (Int.tdiv (wrap64 (-(wrap64 ((Go.bits .or .i64 x7_1 (ji12)) + 1)))) 2))) = false := decide_eq_false c18; have c18b0w : decide (1099511627776 < (IntKind.i64.wrap (Int.tdiv (IntKind.i64.wrap (-(IntKind.i64.wrap ((Go.bits .or .i64 x7_1 (ji12)) + 1)))) 2))) = false := by simp only [i64_w]; exact c18b0
     clear c18; simp only [Option.some.injEq, Prod.mk.injEq] at H; obtain ⟨rfl, rfl, rfl⟩ := H; have p588 : 0 ≤ ((ji7) : Int) := odA; have q588 : (ji7) < (l0.length : Int) := odA; obtain ⟨ad588, e588, hx588_0⟩ := Kd.at_int HR0.out (ji7) p588 q588
     cases e588
     replace p588 := eq_true p588; replace q588 := eq_true q588; go_wp2
     go_ret3
     exact ⟨xq24, xq5⟩

def impl_fieldOf.f (a0 : Int) : Option (Int × Int × Int × Bool) := Go.Proofs.Ytogdhclomgafdaa.Fld.impl_fieldOf.f a0
theorem impl_fieldOf.calls (a0 : Int) (r1 : Int) (r2 : Int) (r3 : Int) (r4 : Bool) (w : World) (h : impl_fieldOf.f a0 = some (r1, r2, r3, r4)) :
 Calls Try.prog 103 #[.int .i64 a0] w fun e w' => e = .returned (.tuple #[.agg #[.int .i64 r1, .int .i64 r2, .int .i64 r3], .bool r4]) ∧ Below w.heap.size w w' :=
 Go.Proofs.Ytogdhclomgafdaa.Fld.impl_fieldOf.calls a0 r1 r2 r3 r4 w h

def impl_areWords.l0 : Nat → List Int → List Int → Int → Int → Option (Bool)
 | 0, _, _, _, _ => none
 | k + 1, x0, x5, x6, x7 => if x7 < x6 then (if 0 ≤ x7 then (if x7 < (x5.length : Int) then (if (rd x5 x7) < (-1099511627776) then (some false) else (if (rd x5 x7) > 1099511627776 then (some false) else (impl_areWords.l0 k x0 x5 x6 (wrap64 (x7 + 1))))) else (none)) else (none)) else (some (decide ((x0.length : Int) ≤ 400)))
def impl_areWords.f (k : Nat) (l0 : List Int) : Option (Bool) := impl_areWords.l0 k l0 l0 (l0.length : Int) 0
theorem impl_areWords.mono_l : ∀ k, (∀ y0 y1 y2 y3, LeO (impl_areWords.l0 k y0 y1 y2 y3) (impl_areWords.l0 (k + 1) y0 y1 y2 y3))
 | 0 => fun _ _ _ _ r h => by simp [impl_areWords.l0] at h
 | k + 1 => by
  have ih0 := impl_areWords.mono_l k
  · intro y0 y1 y2 y3; unfold impl_areWords.l0; exact xq109
theorem impl_areWords.mono : ∀ a0 k, LeO (impl_areWords.f k a0) (impl_areWords.f (k + 1) a0) := by
 intro a0 k; have ih0 := impl_areWords.mono_l k
 unfold impl_areWords.f
 exact xq109
theorem impl_areWords.calls (k : Nat) (A0 : Option Addr) (c0 : Nat) (l0 : List Int) (r : Bool) (w : World) (hr0 : Kd.C (Kd.int .i64) w A0 l0.length l0) (hc0 : l0.length ≤ c0) (h : impl_areWords.f k l0 = some r) :
 Calls Try.prog 113 #[.slice A0 l0.length c0] w fun e w' => e = .returned (.bool r) ∧ Drawn0 w w' := by
 have HR0 := ak hr0; have HC0 := ak hc0; clear hr0 hc0; have H : (impl_areWords.l0 k l0 l0 (l0.length : Int) 0) = some r := h; clear h; have H' := ak H; clear H; go_enter Try.func113, Try.ntmps113
 go_wp2
 go_loopg [7] k (fun kq v7 w' => ∃ (x7_1 : Int), v7 = .int .i64 x7_1 ∧ Aside0 (impl_areWords.l0 kq l0 l0 (l0.length : Int) x7_1 = some r) ∧ Aside0 (kq ≤ k) ∧ Drawn0 w w')
 case atStart => exact ⟨(0), eqA, H', ⟨Nat.le_refl _⟩, xq5⟩
 case round =>
  clear H'; obtain ⟨x7_1, rfl, HA, HK1, ⟨m1, rfl⟩⟩ := hrel
  cases gk with
  | zero => exact absurd HA.out (by simp [impl_areWords.l0])
  | succ k1 =>
   have H := HA.out; clear HA; simp only [impl_areWords.l0] at H
   by_cases c2 : x7_1 < (l0.length : Int); rotate_left
   · rw [if_neg c2] at H; have c2b0 := decide_eq_false c2; clear c2; obtain rfl := Option.some.inj H; go_wp2
     go_ret
     exact ⟨xq10, xq5⟩
   rw [if_pos c2] at H; have c2b0 := decide_eq_true c2; clear c2
   by_cases c3 : 0 ≤ x7_1; rotate_left
   · rw [if_neg c3] at H; exact absurd H (by simp)
   rw [if_pos c3] at H; have c3b0 := decide_eq_true c3; clear c3
   by_cases c4 : x7_1 < (l0.length : Int); rotate_left
   · rw [if_neg c4] at H; exact absurd H (by simp)
   rw [if_pos c4] at H; have c4b0 := decide_eq_true c4; clear c4
   by_cases c5 : (rd l0 x7_1) < (-1099511627776)
   · rw [if_pos c5] at H; have c5b0 := decide_eq_true c5; clear c5; obtain rfl := Option.some.inj H; have p589 : 0 ≤ (x7_1 : Int) := odA; have q589 : x7_1 < (l0.length : Int) := odA; obtain ⟨ad589, e589, hx589_0⟩ := Kd.at_int HR0.out x7_1 p589 q589
     cases e589
     replace p589 := eq_true p589; replace q589 := eq_true q589; go_wp2
     go_ret
     exact ⟨xq10, xq5⟩
   rw [if_neg c5] at H; have c5b0 := decide_eq_false c5; clear c5
   by_cases c6 : (rd l0 x7_1) > 1099511627776
   · rw [if_pos c6] at H; have c6b0 : decide (1099511627776 < (rd l0 x7_1)) = true := decide_eq_true c6; clear c6; obtain rfl := Option.some.inj H; have p589 : 0 ≤ (x7_1 : Int) := odA; have q589 : x7_1 < (l0.length : Int) := odA; obtain ⟨ad589, e589, hx589_0⟩ := Kd.at_int HR0.out x7_1 p589 q589
     cases e589
     replace p589 := eq_true p589; replace q589 := eq_true q589; go_wp2
     go_ret
     exact ⟨xq10, xq5⟩
   rw [if_neg c6] at H; have c6b0 : decide (1099511627776 < (rd l0 x7_1)) = false := decide_eq_false c6; clear c6; have H' := ak H; clear H; have p589 : 0 ≤ (x7_1 : Int) := odA; have q589 : x7_1 < (l0.length : Int) := odA; obtain ⟨ad589, e589, hx589_0⟩ := Kd.at_int HR0.out x7_1 p589 q589
   cases e589
   replace p589 := eq_true p589; replace q589 := eq_true q589; go_wp2
   go_roundg k1
   case measure => have := HK1.out; omega
   case rel => exact ⟨(wrap64 (x7_1 + 1)), eqA, H', ⟨xq19⟩, xq5⟩

def impl_usesB.f (a0 : Int) : Option (Bool) := if a0 = 1 then (some false) else (if a0 = 2 then (some false) else (some (a0 != 7)))
theorem impl_usesB.calls (a0 : Int) (r : Bool) (w : World) (h : impl_usesB.f a0 = some r) :
 Calls Try.prog 114 #[.int .i64 a0] w fun e w' => e = .returned (.bool r) ∧ Drawn0 w w' := by
 have H : (if a0 = 1 then (some false) else (if a0 = 2 then (some false) else (some (a0 != 7)))) = some r := h; clear h
 by_cases c2 : a0 = 1
 · rw [if_pos c2] at H; have c2b0 : (a0 == 1) = true := beq_iff_eq.mpr c2; have c2b1 : (a0 != 1) = false := bne_eq_false_iff_eq.mpr c2; clear c2; obtain rfl := Option.some.inj H; go_enter Try.func114, Try.ntmps114
   go_wp2
   go_ret
   exact ⟨xq10, xq5⟩
 rw [if_neg c2] at H; have c2b0 : (a0 == 1) = false := beq_eq_false_iff_ne.mpr c2; have c2b1 : (a0 != 1) = true := bne_iff_ne.mpr c2
 by_cases c3 : a0 = 2; rotate_left
 · rw [if_neg c3] at H; have c3b0 : (a0 == 2) = false := beq_eq_false_iff_ne.mpr c3; have c3b1 : (a0 != 2) = true := bne_iff_ne.mpr c3; obtain rfl := Option.some.inj H; go_enter Try.func114, Try.ntmps114
   go_wp2
   go_ret
   exact ⟨xq10, xq5⟩
 rw [if_pos c3] at H; have c3b0 : (a0 == 2) = true := beq_iff_eq.mpr c3; have c3b1 : (a0 != 2) = false := bne_eq_false_iff_eq.mpr c3; clear c3; obtain rfl := Option.some.inj H; go_enter Try.func114, Try.ntmps114
 go_wp2
 go_ret
 exact ⟨xq10, xq5⟩

end Go.Proofs.Ytogdhclomgafdaa.PFnJobBytes

-- Written by a program of this session (the print of the kit with contracts of this session's own added)
import Derived.Test.YtogdhclomgafdaaZFJBx15
set_option maxHeartbeats 8000000
set_option maxRecDepth 100000
namespace Go.Proofs.Ytogdhclomgafdaa.PFnJobBytes
open Go.RowKit Go.Proofs.YtogdhclomgafdaaW.PrintWords Go.Proofs.YtogdhclomgafdaaW.PrintLast Go.Proofs.YtogdhclomgafdaaW.PrintMore Go.Proofs.YtogdhclomgafdaaW.PrintPack Go.Proofs.YtogdhclomgafdaaW.PrintPack
attribute [local go_sem] max2_int min2_int max_two min_two max_three min_three max_four min_four   -- for this text's walks alone
set_option linter.unusedVariables false
set_option linter.unusedSimpArgs false

def spec_l01Same.l0 : Nat → List Int → List Int → Int → Option (Bool)
 | 0, _, _, _ => none
 | k + 1, x0, x1, x5 => if x5 < (x0.length : Int) then (if 0 ≤ x5 then (if x5 < (x1.length : Int) then (if (rd x0 x5) = (rd x1 x5) then (spec_l01Same.l0 k x0 x1 (wrap64 (x5 + 1))) else (some false)) else (none)) else (none)) else (some true)
def spec_l01Same.f (k : Nat) (l0 : List Int) (l1 : List Int) : Option (Bool) := if (l0.length : Int) = (l1.length : Int) then (spec_l01Same.l0 k l0 l1 0) else (some false)
theorem spec_l01Same.mono_l : ∀ k, (∀ y0 y1 y2, LeO (spec_l01Same.l0 k y0 y1 y2) (spec_l01Same.l0 (k + 1) y0 y1 y2))
 | 0 => fun _ _ _ r h => by simp [spec_l01Same.l0] at h
 | k + 1 => by
  have ih0 := spec_l01Same.mono_l k
  · intro y0 y1 y2; unfold spec_l01Same.l0; exact xq18
theorem spec_l01Same.mono : ∀ a0 a1 k, LeO (spec_l01Same.f k a0 a1) (spec_l01Same.f (k + 1) a0 a1) := by
 intro a0 a1 k; have ih0 := spec_l01Same.mono_l k
 unfold spec_l01Same.f
 exact xq18
theorem spec_l01Same.calls (k : Nat) (A0 : Option Addr) (c0 : Nat) (l0 : List Int) (A1 : Option Addr) (c1 : Nat) (l1 : List Int) (r : Bool) (w : World) (hr0 : Kd.C (Kd.int .u8) w A0 l0.length l0) (hc0 : l0.length ≤ c0) (hr1 : Kd.C (Kd.int .u8) w A1 l1.length l1) (hc1 : l1.length ≤ c1) (h : spec_l01Same.f k l0 l1 = some r) :
 Calls Try.prog 119 #[.slice A0 l0.length c0, .slice A1 l1.length c1] w fun e w' => e = .returned (.bool r) ∧ Drawn0 w w' := by
 have HR0 := ak hr0; have HC0 := ak hc0; clear hr0 hc0; have HR1 := ak hr1; have HC1 := ak hc1; clear hr1 hc1; have H : (if (l0.length : Int) = (l1.length : Int) then (spec_l01Same.l0 k l0 l1 0) else (some false)) = some r := h; clear h
 by_cases c3 : (l0.length : Int) = (l1.length : Int); rotate_left
 · rw [if_neg c3] at H; have c3b0 : ((l0.length : Int) == (l1.length : Int)) = false := beq_eq_false_iff_ne.mpr c3; have c3b1 : ((l0.length : Int) != (l1.length : Int)) = true := bne_iff_ne.mpr c3; have c3b2 : (l0.length == l1.length) = false := by first | simpa using c3 | (simp at c3 ⊢; omega)
   obtain rfl := Option.some.inj H; go_enter Try.func119, Try.ntmps119
   go_wp2
   repeat (go_quiet (fail); try go_wp2)
   go_ret
   exact ⟨xq10, xq5⟩
 rw [if_pos c3] at H; have c3b0 : ((l0.length : Int) == (l1.length : Int)) = true := beq_iff_eq.mpr c3; have c3b1 : ((l0.length : Int) != (l1.length : Int)) = false := bne_eq_false_iff_eq.mpr c3; have c3b2 : (l0.length == l1.length) = true := by first | simpa using c3 | (simp at c3 ⊢; omega)
 clear c3; have H' := ak H; clear H; go_enter Try.func119, Try.ntmps119
 go_wp2
 repeat (go_quiet (fail); try go_wp2)
 go_loopg [5] k (fun kq v5 w' => ∃ (x5_1 : Int), v5 = .int .i64 x5_1 ∧ Aside0 (spec_l01Same.l0 kq l0 l1 x5_1 = some r) ∧ Aside0 (kq ≤ k) ∧ Drawn0 w w')
 case atStart => exact ⟨(0), eqA, H', ⟨Nat.le_refl _⟩, xq5⟩
 case round =>
  clear H'; obtain ⟨x5_1, rfl, HA, HK1, ⟨m1, rfl⟩⟩ := hrel
  cases gk with
  | zero => exact absurd HA.out (by simp [spec_l01Same.l0])
  | succ k1 =>
   have H := HA.out; clear HA; simp only [spec_l01Same.l0] at H
   by_cases c4 : x5_1 < (l0.length : Int); rotate_left
   · rw [if_neg c4] at H; have c4b0 := decide_eq_false c4; clear c4; obtain rfl := Option.some.inj H; go_wp2
     repeat (go_quiet (fail); try go_wp2)
     go_ret
     exact ⟨xq10, xq5⟩
   rw [if_pos c4] at H; have c4b0 := decide_eq_true c4; clear c4
   by_cases c5 : 0 ≤ x5_1; rotate_left
   · rw [if_neg c5] at H; exact absurd H (by simp)
   rw [if_pos c5] at H; have c5b0 := decide_eq_true c5; clear c5
   by_cases c6 : x5_1 < (l1.length : Int); rotate_left
   · rw [if_neg c6] at H; exact absurd H (by simp)
   rw [if_pos c6] at H; have c6b0 := decide_eq_true c6; clear c6
   by_cases c7 : (rd l0 x5_1) = (rd l1 x5_1); rotate_left
   · rw [if_neg c7] at H; have c7b0 : ((rd l0 x5_1) == (rd l1 x5_1)) = false := beq_eq_false_iff_ne.mpr c7; have c7b1 : ((rd l0 x5_1) != (rd l1 x5_1)) = true := bne_iff_ne.mpr c7; obtain rfl := Option.some.inj H; have p743 : 0 ≤ (x5_1 : Int) := odA; have q743 : x5_1 < (l0.length : Int) := odA; obtain ⟨ad743, e743, hx743_0⟩ := Kd.at_int HR0.out x5_1 p743 q743
     cases e743
     replace p743 := eq_true p743; replace q743 := eq_true q743; have p744 : 0 ≤ (x5_1 : Int) := odA; have q744 : x5_1 < (l1.length : Int) := odA; obtain ⟨ad744, e744, hx744_0⟩ := Kd.at_int HR1.out x5_1 p744 q744
     cases e744
     replace p744 := eq_true p744; replace q744 := eq_true q744; go_wp2
     repeat (go_quiet (fail); try go_wp2)
     go_ret
     exact ⟨xq10, xq5⟩
   rw [if_pos c7] at H; have c7b0 : ((rd l0 x5_1) == (rd l1 x5_1)) = true := beq_iff_eq.mpr c7; have c7b1 : ((rd l0 x5_1) != (rd l1 x5_1)) = false := bne_eq_false_iff_eq.mpr c7; clear c7; have H' := ak H; clear H; have p743 : 0 ≤ (x5_1 : Int) := odA; have q743 : x5_1 < (l0.length : Int) := odA; obtain ⟨ad743, e743, hx743_0⟩ := Kd.at_int HR0.out x5_1 p743 q743
   cases e743
   replace p743 := eq_true p743; replace q743 := eq_true q743; have p744 : 0 ≤ (x5_1 : Int) := odA; have q744 : x5_1 < (l1.length : Int) := odA; obtain ⟨ad744, e744, hx744_0⟩ := Kd.at_int HR1.out x5_1 p744 q744
   cases e744
   replace p744 := eq_true p744; replace q744 := eq_true q744; go_wp2
   repeat (go_quiet (fail); try go_wp2)
   go_roundg k1
   case measure => have := HK1.out; omega
   case rel => exact ⟨(wrap64 (x5_1 + 1)), eqA, H', ⟨xq19⟩, xq5⟩

mutual
def spec_TakeNumber.j0 : Nat → List Int → Int → Bool → Option (Int × Int × Bool)
 | 0, _, _, _ => none
 | k + 1, x0, x1, x18 => if x18 = true then (some (0, 0, false)) else (spec_TakeNumber.l0 k x0 x1 0 0)
def spec_TakeNumber.l0 : Nat → List Int → Int → Int → Int → Option (Int × Int × Bool)
 | 0, _, _, _, _ => none
 | k + 1, x0, x1, x7, x8 => if x8 < 6 then (spec_TakeNumber.j2 k x0 x1 x7 x8 (decide (x8 < (wrap64 ((x0.length : Int) - x1))))) else (spec_TakeNumber.j2 k x0 x1 x7 x8 false)
def spec_TakeNumber.j2 : Nat → List Int → Int → Int → Int → Bool → Option (Int × Int × Bool)
 | 0, _, _, _, _, _ => none
 | k + 1, x0, x1, x7, x8, x28 => if x28 = true then (if 0 ≤ (wrap64 (x1 + x8)) then (if (wrap64 (x1 + x8)) < (x0.length : Int) then (if 0 ≤ (IntKind.u64.wrap (wrap64 (7 * x8))) then (if (wrap64 (rd x0 (wrap64 (x1 + x8)))) ≥ 128 then (spec_TakeNumber.l0 k x0 x1 (wrap64 (x7 + (shl .i64 (Int.tmod (wrap64 (rd x0 (wrap64 (x1 + x8)))) 128) (IntKind.u64.wrap (wrap64 (7 * x8)))))) (wrap64 (x8 + 1))) else (if (Int.tmod (wrap64 (x7 + (shl .i64 (Int.tmod (wrap64 (rd x0 (wrap64 (x1 + x8)))) 128) (IntKind.u64.wrap (wrap64 (7 * x8)))))) 2) = 1 then (spec_TakeNumber.j3 k x0 x1 x8 (wrap64 ((wrap64 (-(wrap64 (Int.tdiv (wrap64 (x7 + (shl .i64 (Int.tmod (wrap64 (rd x0 (wrap64 (x1 + x8)))) 128) (IntKind.u64.wrap (wrap64 (7 * x8)))))) 2)))) - 1))) else (spec_TakeNumber.j3 k x0 x1 x8 (wrap64 (Int.tdiv (wrap64 (x7 + (shl .i64 (Int.tmod (wrap64 (rd x0 (wrap64 (x1 + x8)))) 128) (IntKind.u64.wrap (wrap64 (7 * x8)))))) 2))))) else (none)) else (none)) else (none)) else (some (0, 0, false))
def spec_TakeNumber.j3 : Nat → List Int → Int → Int → Int → Option (Int × Int × Bool)
 | 0, _, _, _, _ => none
 | k + 1, x0, x1, x8, x10 => (spec_PutNumber.f k x10).bind fun t746 => (if 0 ≤ x1 then (if x1 ≤ (wrap64 ((wrap64 (x1 + x8)) + 1)) then (if (wrap64 ((wrap64 (x1 + x8)) + 1)) ≤ (x0.length : Int) then ((spec_l01Same.f k t746 ((x0.take ((wrap64 ((wrap64 (x1 + x8)) + 1)) : Int).toNat).drop (x1 : Int).toNat)).bind fun t750 => (if t750 = true then (some (x10, wrap64 ((wrap64 (x1 + x8)) + 1), true)) else (some (0, 0, false)))) else (none)) else (none)) else (none))
end
def spec_TakeNumber.f (k : Nat) (l0 : List Int) (a1 : Int) : Option (Int × Int × Bool) := if a1 < 0 then (spec_TakeNumber.j0 k l0 a1 true) else (spec_TakeNumber.j0 k l0 a1 (decide (a1 ≥ (l0.length : Int))))
theorem spec_TakeNumber.mono_l : ∀ k, (∀ y0 y1 y2, LeO (spec_TakeNumber.j0 k y0 y1 y2) (spec_TakeNumber.j0 (k + 1) y0 y1 y2)) ∧ (∀ y0 y1 y2 y3, LeO (spec_TakeNumber.l0 k y0 y1 y2 y3) (spec_TakeNumber.l0 (k + 1) y0 y1 y2 y3)) ∧ (∀ y0 y1 y2 y3 y4, LeO (spec_TakeNumber.j2 k y0 y1 y2 y3 y4) (spec_TakeNumber.j2 (k + 1) y0 y1 y2 y3 y4)) ∧ (∀ y0 y1 y2 y3, LeO (spec_TakeNumber.j3 k y0 y1 y2 y3) (spec_TakeNumber.j3 (k + 1) y0 y1 y2 y3))
 | 0 => ⟨fun _ _ _ r h => by simp [spec_TakeNumber.j0] at h, fun _ _ _ _ r h => by simp [spec_TakeNumber.l0] at h, fun _ _ _ _ _ r h => by simp [spec_TakeNumber.j2] at h, fun _ _ _ _ r h => by simp [spec_TakeNumber.j3] at h⟩
 | k + 1 => by
  obtain ⟨ih0, ih1, ih2, ih3⟩ := spec_TakeNumber.mono_l k; refine ⟨?_, ?_, ?_, ?_⟩
  · intro y0 y1 y2; unfold spec_TakeNumber.j0; exact xq42
  · intro y0 y1 y2 y3; unfold spec_TakeNumber.l0; exact xq42
  · intro y0 y1 y2 y3 y4; unfold spec_TakeNumber.j2; exact xq42
  · intro y0 y1 y2 y3; unfold spec_TakeNumber.j3; exact xq42
theorem spec_TakeNumber.mono : ∀ a0 a1 k, LeO (spec_TakeNumber.f k a0 a1) (spec_TakeNumber.f (k + 1) a0 a1) := by
 intro a0 a1 k; obtain ⟨ih0, ih1, ih2, ih3⟩ := spec_TakeNumber.mono_l k
 unfold spec_TakeNumber.f
 exact xq42
def spec_TakeNumber.T13 : Bool × List (List Nat × List Nat) := (true, [([], []), ([0], [0]), ([], []), ([], []), ([], []), ([], []), ([4, 5], [4, 5]), ([6], [6]), ([2, 3, 7], [2, 3, 7]), ([1, 8, 1], [1, 8]), ([9], [9])])
def spec_TakeNumber.B13 : List Nat := [0, 1, 0, 0, 0, 0, 48, 112, 252, 511, 1023]
theorem spec_TakeNumber.tab13 : rtab .any (opsOf Try.f92 13) = spec_TakeNumber.T13 := by kernel_rfl
theorem spec_TakeNumber.bits13 : waitsOk spec_TakeNumber.T13.2 spec_TakeNumber.B13 = true := by kernel_rfl
theorem spec_TakeNumber.calls (k : Nat) (A0 : Option Addr) (c0 : Nat) (l0 : List Int) (a1 : Int) (r1 : Int) (r2 : Int) (r3 : Bool) (w : World) (hr0 : Kd.C (Kd.int .u8) w A0 l0.length l0) (hc0 : l0.length ≤ c0) (h : spec_TakeNumber.f k l0 a1 = some (r1, r2, r3)) :
 Calls Try.prog 92 #[.slice A0 l0.length c0, .int .i64 a1] w fun e w' => e = .returned (.tuple #[.int .i64 r1, .int .i64 r2, .bool r3]) ∧ Below w.heap.size w w' := by
 have HR0 := ak hr0; have HC0 := ak hc0; clear hr0 hc0; have HB := ak (Below.refl w.heap.size w); have H : (if a1 < 0 then (spec_TakeNumber.j0 k l0 a1 true) else (spec_TakeNumber.j0 k l0 a1 (decide (a1 ≥ (l0.length : Int))))) = some (r1, r2, r3) := h; clear h; have HC3 := ak H; clear H; go_enter Try.func92, Try.ntmps92
 go_upto_region 1 with (fail)
 go_cut [18] (fun v18 wc => ∃ (kq : Nat) (x18_2 : Bool), v18 = .bool x18_2 ∧ Aside0 (spec_TakeNumber.j0 kq l0 a1 x18_2 = some (r1, r2, r3)) ∧ Aside0 (kq ≤ k) ∧ Aside0 (Below w.heap.size w wc))
 case first =>
  have H := HC3.out; clear HC3
  by_cases c4 : a1 < 0
  · rw [if_pos c4] at H; have c4b0 := decide_eq_true c4; clear c4; (first | rw [c4b0] | (simp only [i64_w, i32_w]; rw [c4b0]) | skip)
    have H' := ak H; clear H; go_wp2
    go_meet
    case rel => exact ⟨_, (true), eqA, H', ⟨xq12⟩, ⟨belA⟩⟩
  rw [if_neg c4] at H; have c4b0 := decide_eq_false c4; clear c4; (first | rw [c4b0] | (simp only [i64_w, i32_w]; rw [c4b0]) | skip)
  have H' := ak H; clear H; go_wp2
  go_meet
  case rel => exact ⟨_, (decide (a1 ≥ (l0.length : Int))), eqA, H', ⟨xq12⟩, ⟨belA⟩⟩
 case rest =>
  clear HC3; obtain ⟨kq, x18_2, rfl, HA, HJ2, HB⟩ := hcut
  cases kq with
  | zero => exact absurd HA.out (by simp [spec_TakeNumber.j0])
  | succ kj2 =>
   have H := HA.out; clear HA; simp only [spec_TakeNumber.j0] at H
   by_cases c5 : x18_2 = true
   · subst c5; have H1 : (some (0, 0, false)) = some (r1, r2, r3) := by rw [if_pos rfl] at H; exact H
     clear H; have H := H1; clear H1; simp only [Option.some.injEq, Prod.mk.injEq] at H; obtain ⟨rfl, rfl, rfl⟩ := H; go_wp2
     go_ret3
     exact ⟨xq6, belA⟩
   replace c5 := Bool.eq_false_iff.mpr c5; subst c5; have H1 : (spec_TakeNumber.l0 kj2 l0 a1 0 0) = some (r1, r2, r3) := by rw [if_neg (show ¬ (false = true) by decide)] at H; exact H
   clear H; have H := H1; clear H1; have H' := ak H; clear H; go_wp2
   go_loopg [7, 8] kj2 (fun kq v7 v8 w' => ∃ (x7_2 : Int) (x8_2 : Int), v7 = .int .i64 x7_2 ∧ v8 = .int .i64 x8_2 ∧ Aside0 (spec_TakeNumber.l0 kq l0 a1 x7_2 x8_2 = some (r1, r2, r3)) ∧ Aside0 (kq ≤ kj2) ∧ Aside0 (Below w.heap.size w w'))
   case atStart => exact ⟨(0), (0), eqA, eqA, H', ⟨Nat.le_refl _⟩, ⟨belA⟩⟩
   case round =>
    clear H'; obtain ⟨x7_2, x8_2, rfl, rfl, HA, HK2, HB⟩ := hrel
    cases gk with
    | zero => exact absurd HA.out (by simp [spec_TakeNumber.l0])
    | succ k2 =>
     have H := HA.out; clear HA; simp only [spec_TakeNumber.l0] at H; have HC6 := ak H; clear H; go_upto_region 5 with (fail)
     go_cut [28] (fun v28 wc => ∃ (kq : Nat) (x28_5 : Bool), v28 = .bool x28_5 ∧ Aside0 (spec_TakeNumber.j2 kq l0 a1 x7_2 x8_2 x28_5 = some (r1, r2, r3)) ∧ Aside0 (kq ≤ k2) ∧ Aside0 (Below w.heap.size w wc))
     case first =>
      have H := HC6.out; clear HC6
      by_cases c7 : x8_2 < 6; rotate_left
      · rw [if_neg c7] at H; have c7b0 := decide_eq_false c7; clear c7; (first | rw [c7b0] | (simp only [i64_w, i32_w]; rw [c7b0]) | skip)
        have H' := ak H; clear H; go_wp2
        go_meet
        case rel => exact ⟨_, (false), eqA, H', ⟨by have := HJ2.out; have := HK2.out; first | omega | exact Nat.le_refl _⟩, ⟨belA⟩⟩
      rw [if_pos c7] at H; have c7b0 := decide_eq_true c7; clear c7; (first | rw [c7b0] | (simp only [i64_w, i32_w]; rw [c7b0]) | skip)
      have H' := ak H; clear H; go_wp2
      go_meet
      case rel => exact ⟨_, (decide (x8_2 < (wrap64 ((l0.length : Int) - a1)))), eqA, H', ⟨by have := HJ2.out; have := HK2.out; first | omega | exact Nat.le_refl _⟩, ⟨belA⟩⟩
     case rest =>
      clear HC6; obtain ⟨kq, x28_5, rfl, HA, HJ5, HB⟩ := hcut
      cases kq with
      | zero => exact absurd HA.out (by simp [spec_TakeNumber.j2])
      | succ kj5 =>
       have H := HA.out; clear HA; simp only [spec_TakeNumber.j2] at H
       by_cases c8 : x28_5 = true; rotate_left
       · replace c8 := Bool.eq_false_iff.mpr c8; subst c8; have H1 : (some (0, 0, false)) = some (r1, r2, r3) := by rw [if_neg (show ¬ (false = true) by decide)] at H; exact H
         clear H; have H := H1; clear H1; simp only [Option.some.injEq, Prod.mk.injEq] at H; obtain ⟨rfl, rfl, rfl⟩ := H; go_wp2
         go_ret3
         exact ⟨xq6, belA⟩
       subst c8; have H1 : (if 0 ≤ (wrap64 (a1 + x8_2)) then (if (wrap64 (a1 + x8_2)) < (l0.length : Int) then (if 0 ≤ (IntKind.u64.wrap (wrap64 (7 * x8_2))) then (if (wrap64 (rd l0 (wrap64 (a1 + x8_2)))) ≥ 128 then (spec_TakeNumber.l0 kj5 l0 a1 (wrap64 (x7_2 + (shl .i64 (Int.tmod (wrap64 (rd l0 (wrap64 (a1 + x8_2)))) 128) (IntKind.u64.wrap (wrap64 (7 * x8_2)))))) (wrap64 (x8_2 + 1))) else (if (Int.tmod (wrap64 (x7_2 + (shl .i64 (Int.tmod (wrap64 (rd l0 (wrap64 (a1 + x8_2)))) 128) (IntKind.u64.wrap (wrap64 (7 * x8_2)))))) 2) = 1 then (spec_TakeNumber.j3 kj5 l0 a1 x8_2 (wrap64 ((wrap64 (-(wrap64 (Int.tdiv (wrap64 (x7_2 + (shl .i64 (Int.tmod (wrap64 (rd l0 (wrap64 (a1 + x8_2)))) 128) (IntKind.u64.wrap (wrap64 (7 * x8_2)))))) 2)))) - 1))) else (spec_TakeNumber.j3 kj5 l0 a1 x8_2 (wrap64 (Int.tdiv (wrap64 (x7_2 + (shl .i64 (Int.tmod (wrap64 (rd l0 (wrap64 (a1 + x8_2)))) 128) (IntKind.u64.wrap (wrap64 (7 * x8_2)))))) 2))))) else (none)) else (none)) else (none)) = some (r1, r2, r3) := by rw [if_pos rfl] at H; exact H
       clear H; have H := H1; clear H1; obtain ⟨ji9, hji9⟩ : ∃ j_ : Int, (wrap64 (a1 + x8_2)) = j_ := ⟨_, rfl⟩; replace H : (if 0 ≤ (ji9) then (if (ji9) < (l0.length : Int) then (if 0 ≤ (IntKind.u64.wrap (wrap64 (7 * x8_2))) then (if (wrap64 (rd l0 (ji9))) ≥ 128 then (spec_TakeNumber.l0 kj5 l0 a1 (wrap64 (x7_2 + (shl .i64 (Int.tmod (wrap64 (rd l0 (ji9))) 128) (IntKind.u64.wrap (wrap64 (7 * x8_2)))))) (wrap64 (x8_2 + 1))) else (if (Int.tmod (wrap64 (x7_2 + (shl .i64 (Int.tmod (wrap64 (rd l0 (ji9))) 128) (IntKind.u64.wrap (wrap64 (7 * x8_2)))))) 2) = 1 then (spec_TakeNumber.j3 kj5 l0 a1 x8_2 (wrap64 ((wrap64 (-(wrap64 (Int.tdiv (wrap64 (x7_2 + (shl .i64 (Int.tmod (wrap64 (rd l0 (ji9))) 128) (IntKind.u64.wrap (wrap64 (7 * x8_2)))))) 2)))) - 1))) else (spec_TakeNumber.j3 kj5 l0 a1 x8_2 (wrap64 (Int.tdiv (wrap64 (x7_2 + (shl .i64 (Int.tmod (wrap64 (rd l0 (ji9))) 128) (IntKind.u64.wrap (wrap64 (7 * x8_2)))))) 2))))) else (none)) else (none)) else (none)) = some (r1, r2, r3) := by first | (rw [hji9] at H; exact H) | (simp only [hji9] at H ⊢; exact H)
       have hji9w : (IntKind.i64.wrap (a1 + x8_2)) = ji9 := (i64_w _).trans hji9
       by_cases c10 : 0 ≤ (ji9); rotate_left
       · rw [if_neg c10] at H; exact absurd H (by simp)
       rw [if_pos c10] at H; have c10b0 := decide_eq_true c10; clear c10
       by_cases c11 : (ji9) < (l0.length : Int); rotate_left
       · rw [if_neg c11] at H; exact absurd H (by simp)
       rw [if_pos c11] at H; have c11b0 := decide_eq_true c11; clear c11; obtain ⟨ji12, hji12⟩ : ∃ j_ : Int, (IntKind.u64.wrap (wrap64 (7 * x8_2))) = j_ := ⟨_, rfl⟩; replace H : (if 0 ≤ (ji12) then (if (wrap64 (rd l0 (ji9))) ≥ 128 then (spec_TakeNumber.l0 kj5 l0 a1 (wrap64 (x7_2 + (shl .i64 (Int.tmod (wrap64 (rd l0 (ji9))) 128) (ji12)))) (wrap64 (x8_2 + 1))) else (if (Int.tmod (wrap64 (x7_2 + (shl .i64 (Int.tmod (wrap64 (rd l0 (ji9))) 128) (ji12)))) 2) = 1 then (spec_TakeNumber.j3 kj5 l0 a1 x8_2 (wrap64 ((wrap64 (-(wrap64 (Int.tdiv (wrap64 (x7_2 + (shl .i64 (Int.tmod (wrap64 (rd l0 (ji9))) 128) (ji12)))) 2)))) - 1))) else (spec_TakeNumber.j3 kj5 l0 a1 x8_2 (wrap64 (Int.tdiv (wrap64 (x7_2 + (shl .i64 (Int.tmod (wrap64 (rd l0 (ji9))) 128) (ji12)))) 2))))) else (none)) = some (r1, r2, r3) := by first | (rw [hji12] at H; exact H) | (simp only [hji12] at H ⊢; exact H)
       by_cases c13 : 0 ≤ (ji12); rotate_left
       · rw [if_neg c13] at H; exact absurd H (by simp)
       rw [if_pos c13] at H; have c13b0 := eq_true c13; have c13b1 : decide (0 ≤ (ji12)) = true := decide_eq_true c13; clear c13; obtain ⟨ji14, hji14⟩ : ∃ j_ : Int, (shl .i64 (Int.tmod (wrap64 (rd l0 (ji9))) 128) (ji12)) = j_ := ⟨_, rfl⟩; replace H : (if (wrap64 (rd l0 (ji9))) ≥ 128 then (spec_TakeNumber.l0 kj5 l0 a1 (wrap64 (x7_2 + (ji14))) (wrap64 (x8_2 + 1))) else (if (Int.tmod (wrap64 (x7_2 + (ji14))) 2) = 1 then (spec_TakeNumber.j3 kj5 l0 a1 x8_2 (wrap64 ((wrap64 (-(wrap64 (Int.tdiv (wrap64 (x7_2 + (ji14))) 2)))) - 1))) else (spec_TakeNumber.j3 kj5 l0 a1 x8_2 (wrap64 (Int.tdiv (wrap64 (x7_2 + (ji14))) 2))))) = some (r1, r2, r3) := by first | (rw [hji14] at H; exact H) | (simp only [hji14] at H ⊢; exact H)
       have hji14_ : (IntKind.i64.wrap ((Int.tmod (wrap64 (rd l0 (ji9))) 128) * 2 ^ min (ji12).toNat 64)) = ji14 := hji14; have hji14z : (ji12) ≤ 64 → (IntKind.i64.wrap ((Int.tmod (wrap64 (rd l0 (ji9))) 128) * 2 ^ (ji12).toNat)) = ji14 := shl_small hji14; have hji14y : (wrap64 ((Int.tmod (wrap64 (rd l0 (ji9))) 128) * 2 ^ min (ji12).toNat 64)) = ji14 := (i64_w _).symm.trans hji14_; have hji14x : (ji12) ≤ 64 → (wrap64 ((Int.tmod (wrap64 (rd l0 (ji9))) 128) * 2 ^ (ji12).toNat)) = ji14 := fun h_ => (i64_w _).symm.trans (hji14z h_)
       by_cases c15 : (wrap64 (rd l0 (ji9))) ≥ 128
       · rw [if_pos c15] at H; have c15b0 : decide (128 ≤ (wrap64 (rd l0 (ji9)))) = true := decide_eq_true c15; have c15b0w : decide (128 ≤ (IntKind.i64.wrap (rd l0 (ji9)))) = true := by simp only [i64_w]; exact c15b0
         clear c15; have H' := ak H; clear H; have p745 : 0 ≤ ((ji9) : Int) := odA; have q745 : (ji9) < (l0.length : Int) := odA; obtain ⟨ad745, e745, hx745_0⟩ := Kd.at_int HR0.out (ji9) p745 q745
         cases e745
         try replace hx745_0 := cB HB hx745_0
         replace p745 := eq_true p745; replace q745 := eq_true q745; go_wp2
         go_roundg kj5
         case measure => have := HJ2.out; have := HK2.out; have := HJ5.out; omega
         case rel => exact ⟨(wrap64 (x7_2 + (ji14))), (wrap64 (x8_2 + 1)), xq63, eqA, H', ⟨by have := HJ2.out; have := HK2.out; have := HJ5.out; omega⟩, ⟨belA⟩⟩
       rw [if_neg c15] at H; have c15b0 : decide (128 ≤ (wrap64 (rd l0 (ji9)))) = false := decide_eq_false c15; have c15b0w : decide (128 ≤ (IntKind.i64.wrap (rd l0 (ji9)))) = false := by simp only [i64_w]; exact c15b0
       clear c15; have HC16 := ak H; clear H; have p745 : 0 ≤ ((ji9) : Int) := odA; have q745 : (ji9) < (l0.length : Int) := odA; obtain ⟨ad745, e745, hx745_0⟩ := Kd.at_int HR0.out (ji9) p745 q745
       cases e745
       try replace hx745_0 := cB HB hx745_0
       replace p745 := eq_true p745; replace q745 := eq_true q745; go_upto_if 52 with (fail)
       go_cut [10] (fun v10 wc => ∃ (kq : Nat) (x10_15 : Int), v10 = .int .i64 x10_15 ∧ Aside0 (spec_TakeNumber.j3 kq l0 a1 x8_2 x10_15 = some (r1, r2, r3)) ∧ Aside0 (kq ≤ kj5) ∧ Aside0 (Below w.heap.size w wc))
       case first =>
        have H := HC16.out; clear HC16
        by_cases c17 : (Int.tmod (wrap64 (x7_2 + (ji14))) 2) = 1; rotate_left
        · rw [if_neg c17] at H; have c17b0 : ((Int.tmod (wrap64 (x7_2 + (ji14))) 2) == 1) = false := beq_eq_false_iff_ne.mpr c17; have c17b1 : ((Int.tmod (wrap64 (x7_2 + (ji14))) 2) != 1) = true := bne_iff_ne.mpr c17; (first | rw [c17b0] | (simp only [i64_w, i32_w]; rw [c17b0]) | skip)
          have H' := ak H; clear H; go_wp2
          go_meet
          case rel => exact ⟨_, (wrap64 (Int.tdiv (wrap64 (x7_2 + (ji14))) 2)), xq63, H', ⟨xq86⟩, ⟨belA⟩⟩
        rw [if_pos c17] at H; have c17b0 : ((Int.tmod (wrap64 (x7_2 + (ji14))) 2) == 1) = true := beq_iff_eq.mpr c17; have c17b1 : ((Int.tmod (wrap64 (x7_2 + (ji14))) 2) != 1) = false := bne_eq_false_iff_eq.mpr c17; clear c17; (first | rw [c17b0] | (simp only [i64_w, i32_w]; rw [c17b0]) | skip)
        have H' := ak H; clear H; go_wp2
        go_meet
        case rel => exact ⟨_, (wrap64 ((wrap64 (-(wrap64 (Int.tdiv (wrap64 (x7_2 + (ji14))) 2)))) - 1)), xq63, H', ⟨xq86⟩, ⟨belA⟩⟩
       case rest =>
        clear HC16; obtain ⟨kq, x10_15, rfl, HA, HJ15, HB⟩ := hcut
        cases kq with
        | zero => exact absurd HA.out (by simp [spec_TakeNumber.j3])
        | succ kj15 =>
         have H := HA.out; clear HA; simp only [spec_TakeNumber.j3] at H; replace H := Option.bind_eq_some_iff.mp H; obtain ⟨t746, A180, H⟩ := H; (try dsimp only at H); have A18 := ak A180; clear A180
         by_cases c19 : 0 ≤ a1; rotate_left
         · rw [if_neg c19] at H; exact absurd H (by simp)
         rw [if_pos c19] at H; have c19b0 := eq_true c19; have c19b1 : decide (0 ≤ a1) = true := decide_eq_true c19; clear c19
         by_cases c20 : a1 ≤ (wrap64 ((wrap64 (a1 + x8_2)) + 1)); rotate_left
         · rw [if_neg c20] at H; exact absurd H (by simp)
         rw [if_pos c20] at H; have c20b0 := eq_true c20; have c20b1 : decide (a1 ≤ (wrap64 ((wrap64 (a1 + x8_2)) + 1))) = true := decide_eq_true c20; have c20b1w : decide (a1 ≤ (IntKind.i64.wrap ((IntKind.i64.wrap (a1 + x8_2)) + 1))) = true := by simp only [i64_w]; exact c20b1
         by_cases c21 : (wrap64 ((wrap64 (a1 + x8_2)) + 1)) ≤ (l0.length : Int); rotate_left
         · rw [if_neg c21] at H; exact absurd H (by simp)
         rw [if_pos c21] at H; have c21b0 := eq_true c21; have c21b1 : decide ((wrap64 ((wrap64 (a1 + x8_2)) + 1)) ≤ (l0.length : Int)) = true := decide_eq_true c21; have c21b1w : decide ((IntKind.i64.wrap ((IntKind.i64.wrap (a1 + x8_2)) + 1)) ≤ (l0.length : Int)) = true := by simp only [i64_w]; exact c21b1
         replace H := Option.bind_eq_some_iff.mp H; obtain ⟨t750, A220, H⟩ := H; (try dsimp only at H); have A22 := ak A220; clear A220
         by_cases c23 : t750 = true
         · subst c23; have H1 : (some (x10_15, wrap64 ((wrap64 (a1 + x8_2)) + 1), true)) = some (r1, r2, r3) := by rw [if_pos rfl] at H; exact H
           clear H; have H := H1; clear H1; simp only [Option.some.injEq, Prod.mk.injEq] at H; obtain ⟨rfl, rfl, rfl⟩ := H; try go_wp2
           replace HB := ak (below_drew1 HB.out); obtain ⟨i025, hi025, _, hsz25, _⟩ := info_parts info5; obtain ⟨A25, hcut25, hA25, hC25⟩ := print_mid_of (P := Try.prog) (Value.int .u8) 0 22 5 .i64 .i64 Try.underlying22 hi025 hsz25 (some ad745) c0 l0 a1 (wrap64 ((wrap64 (a1 + x8_2)) + 1)) (odA) (by first | omega | exact odA) (odA) HC0.out; try simp only [hji12] at hcut25
           try simp only [hji14] at hcut25
           try simp only [hji9] at hcut25
           have HR749 := ak (Kd.C_of_reads (h1 := fun _ => rfl) (hA25 _ (Kd.reads_of_C HR0.out))); have HC749 := ak hC25; clear hA25 hC25 hi025 hsz25; refine start_ (n := 11) (S := fun w' => True) (ds := []) #[false, false, false, false, false, false, false, false, false, false, false] (by kernel_rfl) rfl rfl trivial (fun hHeld => ?_); refine with_tabW spec_TakeNumber.tab13 spec_TakeNumber.bits13 (fun HT_ HW_ => ?_)
           generalize wc.drew = w24 at HB HR749 hHeld ⊢
           refine pure_ (i := 0) (N := some 56) (v := ?_) (a' := ?_) #[true, false, false, false, false, false, false, false, false, false, false] rfl rfl (any_of HT_.out (by kernel_rfl)) (fun _ _ _ h => h) (Or.inl ⟨by rfl, ?_⟩) ?_ ?_
           rotate_left
           · intro w'; go_simp
             with_reducible rfl
           rotate_left
           · simp only [Act.put, sa, sb, sc, i64_w, i32_w]
             rfl
           refine pure_ (i := 2) (N := some 58) (v := ?_) (a' := ?_) #[true, false, true, false, false, false, false, false, false, false, false] rfl rfl (any_of HT_.out (by kernel_rfl)) (fun _ _ _ h => h) (Or.inl ⟨by rfl, ?_⟩) ?_ ?_
           rotate_left
           · intro w'; go_simp
             with_reducible rfl
           rotate_left
           · simp only [Act.put, sa, sb, sc, i64_w, i32_w]
             rfl
           refine pure_ (i := 3) (N := some 59) (v := ?_) (a' := ?_) #[true, false, true, true, false, false, false, false, false, false, false] rfl rfl (any_of HT_.out (by kernel_rfl)) (fun _ _ _ h => h) (Or.inl ⟨by rfl, ?_⟩) ?_ ?_
           rotate_left
           · intro w'; go_simp
             with_reducible rfl
           rotate_left
           · simp only [Act.put, sa, sb, sc, i64_w, i32_w]
             rfl
           refine pure_ (i := 4) (N := some 60) (v := ?_) (a' := ?_) #[true, false, true, true, true, false, false, false, false, false, false] rfl rfl (any_of HT_.out (by kernel_rfl)) (fun _ _ _ h => h) (Or.inl ⟨by rfl, ?_⟩) ?_ ?_
           rotate_left
           · intro w'; go_simp
             with_reducible rfl
           rotate_left
           · simp only [Act.put, sa, sb, sc, i64_w, i32_w]
             rfl
           refine pure_ (i := 5) (N := some 61) (v := ?_) (a' := ?_) #[true, false, true, true, true, true, false, false, false, false, false] rfl rfl (any_of HT_.out (by kernel_rfl)) (fun _ _ _ h => h) (Or.inl ⟨by rfl, ?_⟩) ?_ ?_
           rotate_left
           · intro w'; go_simp
             with_reducible rfl
           rotate_left
           · simp only [Act.put, sa, sb, sc, i64_w, i32_w]
             rfl
           refine pure_ (i := 6) (N := some 62) (v := ?_) (a' := ?_) #[true, false, true, true, true, true, true, false, false, false, false] rfl rfl (any_of HT_.out (by kernel_rfl)) (fun _ _ _ h => h) (Or.inl ⟨by rfl, ?_⟩) ?_ ?_
           rotate_left
           · intro w'; go_simp
             with_reducible rfl
           rotate_left
           · simp only [Act.put, sa, sb, sc, i64_w, i32_w]
             rfl
           refine pure_ (i := 7) (N := some 63) (v := ?_) (a' := ?_) #[true, false, true, true, true, true, true, true, false, false, false] rfl rfl (any_of HT_.out (by kernel_rfl)) (fun _ _ _ h => h) (Or.inl ⟨by rfl, ?_⟩) ?_ ?_
           rotate_left
           · intro w'; go_simp
             with_reducible rfl
           rotate_left
           · simp only [Act.put, sa, sb, sc, i64_w, i32_w]
             rfl
           refine pure_ (i := 8) (N := some 64) (v := ?_) (a' := ?_) #[true, false, true, true, true, true, true, true, true, false, false] rfl rfl (any_of HT_.out (by kernel_rfl)) (fun _ _ _ h => h) (Or.inl ⟨by rfl, ?_⟩) ?_ ?_
           rotate_left
           · intro w'; go_simp
             with_reducible rfl
           rotate_left
           · simp only [Act.put, sa, sb, sc, i64_w, i32_w]
             rfl
           refine one_ (i := 1) (N := some 57) #[true, true, true, true, true, true, true, true, true, false, false] rfl rfl (one_of HT_.out (by kernel_rfl)) (by decide) (fun K hK => ?_)
           refine goes_ Try.func116 (by kernel_rfl) rfl #[.int .i64 x10_15] (by rfl) rfl rfl xq29 ?_
           with_reducible refine (spec_PutNumber.calls kj15 x10_15 t746 _ A18.out).mono ?_
           rintro e w26 ⟨v747, rfl, ho0, hb⟩
           refine ⟨_, rfl, ?_⟩
           have HO748 := rL ho0; replace HB := bS hb; (try clear hb ho0); obtain ⟨Ao27, co27, eo27⟩ := Kd.R_slice HO748.out; (first | subst eo27 | (injection eo27 with f1_ f2_ f3_; have f4_ := f1_.symm; have f5_ := f3_.symm; clear f1_ f2_ f3_; subst f4_; subst f5_))
           refine hK.out _ _ trivial (fun hHeld => ?_)
           clear hK K; refine norm_ (a' := ?_) ?_ ?_
           rotate_left
           · show Act.put _ (some 57) _ = _
             simp only [Act.put, sa, sb, sc, i64_w, i32_w]
             rfl
           refine one_ (i := 9) (N := some 65) #[true, true, true, true, true, true, true, true, true, true, false] rfl rfl (one_of HT_.out (by kernel_rfl)) (by decide) (fun K hK => ?_)
           refine goes_ Try.func119 (by kernel_rfl) rfl #[.slice Ao27 t746.length co27, .slice A25 ((l0.take ((wrap64 ((wrap64 (a1 + x8_2)) + 1)) : Int).toNat).drop (a1 : Int).toNat).length (c0 - a1.toNat)] (by rfl) rfl rfl xq87 ?_
           with_reducible refine (spec_l01Same.calls kj15 _ _ t746 _ _ ((l0.take ((wrap64 ((wrap64 (a1 + x8_2)) + 1)) : Int).toNat).drop (a1 : Int).toNat) true _ ?side1 ?side2 ?side3 ?side4 A22.out).mono ?_
           (case side1 => exact cA ((Kd.R_reads' HO748.out).2.2))
           (case side2 => exact (Kd.R_reads' HO748.out).2.1)
           (case side3 => exact cA (Kd.C_below HR749.out HB.out))
           (case side4 => exact HC749.out)
           rintro e w' ⟨rfl, ⟨nd, rfl⟩⟩
           refine ⟨_, rfl, ?_⟩
           refine hK.out _ _ trivial (fun hHeld => ?_)
           clear hK K; refine norm_ (a' := ?_) ?_ ?_
           rotate_left
           · show Act.put _ (some 65) _ = _
             simp only [Act.put, sa, sb, sc, i64_w, i32_w]
             rfl
           refine pure_ (i := 10) (N := some 66) (v := ?_) (a' := ?_) #[true, true, true, true, true, true, true, true, true, true, true] rfl rfl (any_of HT_.out (by kernel_rfl)) (fun _ _ _ h => h) (Or.inl ⟨by rfl, ?_⟩) ?_ ?_
           rotate_left
           · intro w'; go_simp
             with_reducible rfl
           rotate_left
           · simp only [Act.put, sa, sb, sc, i64_w, i32_w]
             rfl
           refine done_ (done_of HT_.out (by kernel_rfl)) ?_
           try go_wp2
           go_ret3
           exact ⟨xq89, belA⟩
         replace c23 := Bool.eq_false_iff.mpr c23; subst c23; have H1 : (some (0, 0, false)) = some (r1, r2, r3) := by rw [if_neg (show ¬ (false = true) by decide)] at H; exact H
         clear H; have H := H1; clear H1; simp only [Option.some.injEq, Prod.mk.injEq] at H; obtain ⟨rfl, rfl, rfl⟩ := H; try go_wp2
         replace HB := ak (below_drew1 HB.out); obtain ⟨i029, hi029, _, hsz29, _⟩ := info_parts info5; obtain ⟨A29, hcut29, hA29, hC29⟩ := print_mid_of (P := Try.prog) (Value.int .u8) 0 22 5 .i64 .i64 Try.underlying22 hi029 hsz29 (some ad745) c0 l0 a1 (wrap64 ((wrap64 (a1 + x8_2)) + 1)) (odA) (by first | omega | exact odA) (odA) HC0.out; try simp only [hji12] at hcut29
         try simp only [hji14] at hcut29
         try simp only [hji9] at hcut29
         have HR749 := ak (Kd.C_of_reads (h1 := fun _ => rfl) (hA29 _ (Kd.reads_of_C HR0.out))); have HC749 := ak hC29; clear hA29 hC29 hi029 hsz29; refine start_ (n := 11) (S := fun w' => True) (ds := []) #[false, false, false, false, false, false, false, false, false, false, false] (by kernel_rfl) rfl rfl trivial (fun hHeld => ?_); refine with_tabW spec_TakeNumber.tab13 spec_TakeNumber.bits13 (fun HT_ HW_ => ?_)
         generalize wc.drew = w28 at HB HR749 hHeld ⊢
         refine pure_ (i := 0) (N := some 56) (v := ?_) (a' := ?_) #[true, false, false, false, false, false, false, false, false, false, false] rfl rfl (any_of HT_.out (by kernel_rfl)) (fun _ _ _ h => h) (Or.inl ⟨by rfl, ?_⟩) ?_ ?_
         rotate_left
         · intro w'; go_simp
           with_reducible rfl
         rotate_left
         · simp only [Act.put, sa, sb, sc, i64_w, i32_w]
           rfl
         refine pure_ (i := 2) (N := some 58) (v := ?_) (a' := ?_) #[true, false, true, false, false, false, false, false, false, false, false] rfl rfl (any_of HT_.out (by kernel_rfl)) (fun _ _ _ h => h) (Or.inl ⟨by rfl, ?_⟩) ?_ ?_
         rotate_left
         · intro w'; go_simp
           with_reducible rfl
         rotate_left
         · simp only [Act.put, sa, sb, sc, i64_w, i32_w]
           rfl
         refine pure_ (i := 3) (N := some 59) (v := ?_) (a' := ?_) #[true, false, true, true, false, false, false, false, false, false, false] rfl rfl (any_of HT_.out (by kernel_rfl)) (fun _ _ _ h => h) (Or.inl ⟨by rfl, ?_⟩) ?_ ?_
         rotate_left
         · intro w'; go_simp
           with_reducible rfl
         rotate_left
         · simp only [Act.put, sa, sb, sc, i64_w, i32_w]
           rfl
         refine pure_ (i := 4) (N := some 60) (v := ?_) (a' := ?_) #[true, false, true, true, true, false, false, false, false, false, false] rfl rfl (any_of HT_.out (by kernel_rfl)) (fun _ _ _ h => h) (Or.inl ⟨by rfl, ?_⟩) ?_ ?_
         rotate_left
         · intro w'; go_simp
           with_reducible rfl
         rotate_left
         · simp only [Act.put, sa, sb, sc, i64_w, i32_w]
           rfl
         refine pure_ (i := 5) (N := some 61) (v := ?_) (a' := ?_) #[true, false, true, true, true, true, false, false, false, false, false] rfl rfl (any_of HT_.out (by kernel_rfl)) (fun _ _ _ h => h) (Or.inl ⟨by rfl, ?_⟩) ?_ ?_
         rotate_left
         · intro w'; go_simp
           with_reducible rfl
         rotate_left
         · simp only [Act.put, sa, sb, sc, i64_w, i32_w]
           rfl
         refine pure_ (i := 6) (N := some 62) (v := ?_) (a' := ?_) #[true, false, true, true, true, true, true, false, false, false, false] rfl rfl (any_of HT_.out (by kernel_rfl)) (fun _ _ _ h => h) (Or.inl ⟨by rfl, ?_⟩) ?_ ?_
         rotate_left
         · intro w'; go_simp
           with_reducible rfl
         rotate_left
         · simp only [Act.put, sa, sb, sc, i64_w, i32_w]
           rfl
         refine pure_ (i := 7) (N := some 63) (v := ?_) (a' := ?_) #[true, false, true, true, true, true, true, true, false, false, false] rfl rfl (any_of HT_.out (by kernel_rfl)) (fun _ _ _ h => h) (Or.inl ⟨by rfl, ?_⟩) ?_ ?_
         rotate_left
         · intro w'; go_simp
           with_reducible rfl
         rotate_left
         · simp only [Act.put, sa, sb, sc, i64_w, i32_w]
           rfl
         refine pure_ (i := 8) (N := some 64) (v := ?_) (a' := ?_) #[true, false, true, true, true, true, true, true, true, false, false] rfl rfl (any_of HT_.out (by kernel_rfl)) (fun _ _ _ h => h) (Or.inl ⟨by rfl, ?_⟩) ?_ ?_
         rotate_left
         · intro w'; go_simp
           with_reducible rfl
         rotate_left
         · simp only [Act.put, sa, sb, sc, i64_w, i32_w]
           rfl
         refine one_ (i := 1) (N := some 57) #[true, true, true, true, true, true, true, true, true, false, false] rfl rfl (one_of HT_.out (by kernel_rfl)) (by decide) (fun K hK => ?_)
         refine goes_ Try.func116 (by kernel_rfl) rfl #[.int .i64 x10_15] (by rfl) rfl rfl xq29 ?_
         with_reducible refine (spec_PutNumber.calls kj15 x10_15 t746 _ A18.out).mono ?_
         rintro e w30 ⟨v747, rfl, ho0, hb⟩
         refine ⟨_, rfl, ?_⟩
         have HO748 := rL ho0; replace HB := bS hb; (try clear hb ho0); obtain ⟨Ao31, co31, eo31⟩ := Kd.R_slice HO748.out; (first | subst eo31 | (injection eo31 with f1_ f2_ f3_; have f4_ := f1_.symm; have f5_ := f3_.symm; clear f1_ f2_ f3_; subst f4_; subst f5_))
         refine hK.out _ _ trivial (fun hHeld => ?_)
         clear hK K; refine norm_ (a' := ?_) ?_ ?_
         rotate_left
         · show Act.put _ (some 57) _ = _
           simp only [Act.put, sa, sb, sc, i64_w, i32_w]
           rfl
         refine one_ (i := 9) (N := some 65) #[true, true, true, true, true, true, true, true, true, true, false] rfl rfl (one_of HT_.out (by kernel_rfl)) (by decide) (fun K hK => ?_)
         refine goes_ Try.func119 (by kernel_rfl) rfl #[.slice Ao31 t746.length co31, .slice A29 ((l0.take ((wrap64 ((wrap64 (a1 + x8_2)) + 1)) : Int).toNat).drop (a1 : Int).toNat).length (c0 - a1.toNat)] (by rfl) rfl rfl xq87 ?_
         with_reducible refine (spec_l01Same.calls kj15 _ _ t746 _ _ ((l0.take ((wrap64 ((wrap64 (a1 + x8_2)) + 1)) : Int).toNat).drop (a1 : Int).toNat) false _ ?side1 ?side2 ?side3 ?side4 A22.out).mono ?_
         (case side1 => exact cA ((Kd.R_reads' HO748.out).2.2))
         (case side2 => exact (Kd.R_reads' HO748.out).2.1)
         (case side3 => exact cA (Kd.C_below HR749.out HB.out))
         (case side4 => exact HC749.out)
         rintro e w' ⟨rfl, ⟨nd, rfl⟩⟩
         refine ⟨_, rfl, ?_⟩
         refine hK.out _ _ trivial (fun hHeld => ?_)
         clear hK K; refine norm_ (a' := ?_) ?_ ?_
         rotate_left
         · show Act.put _ (some 65) _ = _
           simp only [Act.put, sa, sb, sc, i64_w, i32_w]
           rfl
         refine pure_ (i := 10) (N := some 66) (v := ?_) (a' := ?_) #[true, true, true, true, true, true, true, true, true, true, true] rfl rfl (any_of HT_.out (by kernel_rfl)) (fun _ _ _ h => h) (Or.inl ⟨by rfl, ?_⟩) ?_ ?_
         rotate_left
         · intro w'; go_simp
           with_reducible rfl
         rotate_left
         · simp only [Act.put, sa, sb, sc, i64_w, i32_w]
           rfl
         refine done_ (done_of HT_.out (by kernel_rfl)) ?_
         try go_wp2
         go_ret3
         exact ⟨xq89, belA⟩

end Go.Proofs.Ytogdhclomgafdaa.PFnJobBytes

-- Written by a program of this session (the print of the kit with contracts of this session's own added)
import Derived.Test.YtdefnccngnilmaaZFRx12
namespace Go.Proofs.Ytdefnccngnilmaa.PFnResync
open Go.RowKit Go.Proofs.YtdefnccngnilmaaW.PrintWords Go.Proofs.YtdefnccngnilmaaW.PrintLast Go.Proofs.YtdefnccngnilmaaW.PrintMore Go.Proofs.YtdefnccngnilmaaW.PrintPack
attribute [local go_sem] max2_int min2_int max_two min_two max_three min_three max_four min_four   -- for this text's walks alone
set_option linter.unusedVariables false
set_option linter.unusedSimpArgs false

/-! ### impl_decodeFrame: function 128 -/
mutual
def impl_decodeFrame.j0 : Nat → List Int → Int → Bool → Option (Int × Int × List Int × Int × Int)
 | 0, _, _, _ => none
 | k + 1, x0, x5, x12 => if x12 = true then (impl_decodeFrame.j3 k x0 x5 x12) else (if x5 > 1 then (if 1 < (x0.length : Int) then (impl_decodeFrame.j1 k x0 x5 ((rd x0 1) != 77)) else (none)) else (impl_decodeFrame.j1 k x0 x5 false))
def impl_decodeFrame.j3 : Nat → List Int → Int → Bool → Option (Int × Int × List Int × Int × Int)
 | 0, _, _, _ => none
 | k + 1, x0, x5, x12 => if x12 = true then (some (0, 0, ([] : List Int), 0, 2)) else (if x5 < 9 then (some (0, 0, ([] : List Int), 0, 1)) else (if 7 ≤ 9 then (if 9 ≤ (x0.length : Int) then ((impl_numberIn.f k ((x0.take 9).drop 7)).bind fun t784 => (if t784 > 5000 then (some (0, 0, ([] : List Int), 0, 2)) else (if x5 < (wrap64 (9 + t784)) then (some (0, 0, ([] : List Int), 0, 1)) else (if 2 ≤ (wrap64 (9 + t784)) then (if (wrap64 (9 + t784)) ≤ (x0.length : Int) then ((impl_checkSum.f k ((x0.take ((wrap64 (9 + t784)) : Int).toNat).drop 2)).bind fun t786 => ((impl_bigEndian.f k t786 4).bind fun t787 => (impl_decodeFrame.l0 k x0 x5 t784 t787 (t787.length : Int) 0))) else (none)) else (none))))) else (none)) else (none)))
def impl_decodeFrame.l0 : Nat → List Int → Int → Int → List Int → Int → Int → Option (Int × Int × List Int × Int × Int)
 | 0, _, _, _, _, _, _ => none
 | k + 1, x0, x5, x6, x75, x76, x77 => if x77 < x76 then (if 0 ≤ x77 then (if x77 < (x75.length : Int) then (if (wrap64 ((wrap64 (9 + x6)) + x77)) = x5 then (some (0, 0, ([] : List Int), 0, 1)) else (if 0 ≤ (wrap64 ((wrap64 (9 + x6)) + x77)) then (if (wrap64 ((wrap64 (9 + x6)) + x77)) < (x0.length : Int) then (if (rd x0 (wrap64 ((wrap64 (9 + x6)) + x77))) = (rd x75 x77) then (impl_decodeFrame.l0 k x0 x5 x6 x75 x76 (wrap64 (x77 + 1))) else (some (0, 0, ([] : List Int), 0, 2))) else (none)) else (none))) else (none)) else (none)) else (if 2 < (x0.length : Int) then (if 3 ≤ 7 then (if 7 ≤ (x0.length : Int) then ((impl_numberIn.f k ((x0.take 7).drop 3)).bind fun t792 => ((some (([] : List Int) : List Int)).bind fun y793 => (if 9 ≤ (wrap64 (9 + x6)) then (if (wrap64 (9 + x6)) ≤ (x0.length : Int) then (if y793.length + ((x0.take ((wrap64 (9 + x6)) : Int).toNat).drop 9).length < 140737488355328 then (some (wrap64 (rd x0 2), t792, (y793 ++ ((x0.take ((wrap64 (9 + x6)) : Int).toNat).drop 9)), wrap64 (13 + x6), 0)) else (none)) else (none)) else (none)))) else (none)) else (none)) else (none))
def impl_decodeFrame.j1 : Nat → List Int → Int → Bool → Option (Int × Int × List Int × Int × Int)
 | 0, _, _, _ => none
 | k + 1, x0, x5, x12 => if x12 = true then (impl_decodeFrame.j3 k x0 x5 x12) else (if x5 > 2 then (if 2 < (x0.length : Int) then (impl_decodeFrame.j2 k x0 x5 (decide ((rd x0 2) > 99))) else (none)) else (impl_decodeFrame.j2 k x0 x5 false))
def impl_decodeFrame.j2 : Nat → List Int → Int → Bool → Option (Int × Int × List Int × Int × Int)
 | 0, _, _, _ => none
 | k + 1, x0, x5, x12 => if x12 = true then (impl_decodeFrame.j3 k x0 x5 x12) else (if x5 > 3 then (if 3 < (x0.length : Int) then (if (rd x0 3) > 127 then (impl_decodeFrame.j3 k x0 x5 (decide ((rd x0 3) > 127))) else (if x5 > 7 then (if 7 < (x0.length : Int) then (impl_decodeFrame.j3 k x0 x5 (decide ((wrap64 (rd x0 7)) > 19))) else (none)) else (impl_decodeFrame.j3 k x0 x5 false))) else (none)) else (if x5 > 7 then (if 7 < (x0.length : Int) then (impl_decodeFrame.j3 k x0 x5 (decide ((wrap64 (rd x0 7)) > 19))) else (none)) else (impl_decodeFrame.j3 k x0 x5 false)))
end
def impl_decodeFrame.f (k : Nat) (l0 : List Int) : Option (Int × Int × List Int × Int × Int) := if (l0.length : Int) > 0 then (if 0 < (l0.length : Int) then (impl_decodeFrame.j0 k l0 (l0.length : Int) ((rd l0 0) != 199)) else (none)) else (impl_decodeFrame.j0 k l0 (l0.length : Int) false)
theorem impl_decodeFrame.mono_l : ∀ k, (∀ y0 y1 y2, LeO (impl_decodeFrame.j0 k y0 y1 y2) (impl_decodeFrame.j0 (k + 1) y0 y1 y2)) ∧ (∀ y0 y1 y2, LeO (impl_decodeFrame.j3 k y0 y1 y2) (impl_decodeFrame.j3 (k + 1) y0 y1 y2)) ∧ (∀ y0 y1 y2 y3 y4 y5, LeO (impl_decodeFrame.l0 k y0 y1 y2 y3 y4 y5) (impl_decodeFrame.l0 (k + 1) y0 y1 y2 y3 y4 y5)) ∧ (∀ y0 y1 y2, LeO (impl_decodeFrame.j1 k y0 y1 y2) (impl_decodeFrame.j1 (k + 1) y0 y1 y2)) ∧ (∀ y0 y1 y2, LeO (impl_decodeFrame.j2 k y0 y1 y2) (impl_decodeFrame.j2 (k + 1) y0 y1 y2))
 | 0 => ⟨fun _ _ _ r h => by simp [impl_decodeFrame.j0] at h, fun _ _ _ r h => by simp [impl_decodeFrame.j3] at h, fun _ _ _ _ _ _ r h => by simp [impl_decodeFrame.l0] at h, fun _ _ _ r h => by simp [impl_decodeFrame.j1] at h, fun _ _ _ r h => by simp [impl_decodeFrame.j2] at h⟩
 | k + 1 => by
  obtain ⟨ih0, ih1, ih2, ih3, ih4⟩ := impl_decodeFrame.mono_l k; refine ⟨?_, ?_, ?_, ?_, ?_⟩
  · intro y0 y1 y2; unfold impl_decodeFrame.j0; exact xq29
  · intro y0 y1 y2; unfold impl_decodeFrame.j3; exact xq29
  · intro y0 y1 y2 y3 y4 y5; unfold impl_decodeFrame.l0; exact xq29
  · intro y0 y1 y2; unfold impl_decodeFrame.j1; exact xq29
  · intro y0 y1 y2; unfold impl_decodeFrame.j2; exact xq29
theorem impl_decodeFrame.mono : ∀ a0 k, LeO (impl_decodeFrame.f k a0) (impl_decodeFrame.f (k + 1) a0) := by
 intro a0 k; obtain ⟨ih0, ih1, ih2, ih3, ih4⟩ := impl_decodeFrame.mono_l k
 unfold impl_decodeFrame.f
 exact xq29
def impl_decodeFrame.T23 : Bool × List (List Nat × List Nat) := (true, [([], []), ([0], [0]), ([1], [1]), ([2], [2]), ([], []), ([4], [4]), ([5], [5]), ([], []), ([], []), ([], []), ([9], [9]), ([8, 10], [8, 10]), ([7, 11, 6], [7, 11]), ([3, 6, 12], [3, 6, 12]), ([], []), ([14, 13, 12, 0, 1, 2, 3, 4, 5, 6, 7, 8, 9, 10, 11, 12, 13, 14], [13, 14])])
def impl_decodeFrame.B23 : List Nat := [0, 1, 3, 7, 0, 16, 48, 0, 0, 0, 512, 1792, 4080, 8191, 0, 32767]
theorem impl_decodeFrame.tab23 : rtab .any (opsOf Try.f128 23) = impl_decodeFrame.T23 := by kernel_rfl
theorem impl_decodeFrame.bits23 : waitsOk impl_decodeFrame.T23.2 impl_decodeFrame.B23 = true := by kernel_rfl
set_option maxHeartbeats 8000000 in
set_option maxRecDepth 100000 in
theorem impl_decodeFrame.calls (k : Nat) (A0 : Option Addr) (c0 : Nat) (l0 : List Int) (r1 : Int) (r2 : Int) (r3 : List Int) (r4 : Int) (r5 : Int) (w : World) (hr0 : Kd.C (Kd.int .u8) w A0 l0.length l0) (hc0 : l0.length ≤ c0) (h : impl_decodeFrame.f k l0 = some (r1, r2, r3, r4, r5)) :
 Calls Try.prog 128 #[.slice A0 l0.length c0] w fun e w' => ∃ v2_ : Value, e = .returned (.tuple #[.agg #[.int .i64 r1, .int .i64 r2, v2_], .int .i64 r4, .int .i64 r5]) ∧ Kd.R (Kd.int .u8) 5 w' w.heap.size (fun _ => True) v2_ r3 ∧ Below w.heap.size w w' := by
 have hu59 := Try.underlying59; have HR0 := ak hr0; have HC0 := ak hc0; clear hr0 hc0; have HB := ak (Below.refl w.heap.size w); have H : (if (l0.length : Int) > 0 then (if 0 < (l0.length : Int) then (impl_decodeFrame.j0 k l0 (l0.length : Int) ((rd l0 0) != 199)) else (none)) else (impl_decodeFrame.j0 k l0 (l0.length : Int) false)) = some (r1, r2, r3, r4, r5) := h; clear h; have HC2 := ak H; clear H; go_enter Try.func128, Try.ntmps128
 go_upto_region 2 with (first | ((with_reducible refine gate_dst (N := 2) rfl ?_); refine boxA 2 #[.int .i64 0, .int .i64 0, .slice none 0 0] 59 ?_; intro gb776 hg w3 hbox hb; have BK776 := ak hbox; have GW776 := leA (w := w) hg; have GE776 := leA (w := w) hg; replace HB := bS hb; clear hb hbox hg))
 (try simp only [Act.put, sa, sb, sc])
 go_cut [12] (fun v12 wc => ∃ (kq : Nat) (x12_1 : Bool), v12 = .bool x12_1 ∧ Aside0 (impl_decodeFrame.j0 kq l0 (l0.length : Int) x12_1 = some (r1, r2, r3, r4, r5)) ∧ Aside0 (kq ≤ k) ∧ Aside0 (wc.heap[gb776]? = some (.cells #[.int .i64 0, .int .i64 0, (.slice none 0 0)] 59 (0, 0))) ∧ Aside0 (Below w.heap.size w wc))
 case first =>
  have H := HC2.out; clear HC2
  by_cases c4 : (l0.length : Int) > 0; rotate_left
  · rw [if_neg c4] at H; have c4b0 : decide (0 < (l0.length : Int)) = false := decide_eq_false c4; have c4b1 : decide (0 < l0.length) = false := decide_eq_false (by omega); clear c4; (first | rw [c4b0] | (simp only [i64_w, i32_w]; rw [c4b0]) | skip)
    have H' := ak H; clear H; go_wp2
    go_meet
    case rel => exact ⟨_, (false), eqA, H', ⟨xq15⟩, ⟨blkA⟩, ⟨belA⟩⟩
  rw [if_pos c4] at H; have c4b0 : decide (0 < (l0.length : Int)) = true := decide_eq_true c4; have c4b1 : decide (0 < l0.length) = true := decide_eq_true (by omega); clear c4; (first | rw [c4b0] | (simp only [i64_w, i32_w]; rw [c4b0]) | skip)
  by_cases c5 : 0 < (l0.length : Int); rotate_left
  · rw [if_neg c5] at H; exact absurd H (by simp)
  rw [if_pos c5] at H; have c5b0 := decide_eq_true c5; have c5b1 : decide (0 < l0.length) = true := decide_eq_true (by omega); clear c5; have H' := ak H; clear H; have p777 : 0 ≤ (0 : Int) := (by omega); have q777 : 0 < (l0.length : Int) := odA; obtain ⟨ad777, e777, hx777_0⟩ := Kd.at_int HR0.out 0 p777 q777
  cases e777
  have qi777 : (0 < l0.length) = True := eq_true (by omega); (try rw [show ((0 : Int)).toNat = 0 from rfl] at hx777_0)
  (try rw [Addr.add_zero'] at hx777_0)
  try replace hx777_0 := cB HB hx777_0
  replace p777 := eq_true p777; replace q777 := eq_true q777; go_wp2
  go_meet
  case rel => exact ⟨_, (((rd l0 0) != 199)), eqA, H', ⟨xq15⟩, ⟨blkA⟩, ⟨belA⟩⟩
 case rest =>
  clear HC2; obtain ⟨kq, x12_1, rfl, HA, HJ1, BK776, HB⟩ := hcut
  cases kq with
  | zero => exact absurd HA.out (by simp [impl_decodeFrame.j0])
  | succ kj1 =>
   have H := HA.out; clear HA; simp only [impl_decodeFrame.j0] at H; have HC6 := ak H; clear H; go_upto_if 12 with (fail)
   go_cut [12] (fun v12 wc => ∃ (kq : Nat) (x12_5 : Bool), v12 = .bool x12_5 ∧ Aside0 (impl_decodeFrame.j3 kq l0 (l0.length : Int) x12_5 = some (r1, r2, r3, r4, r5)) ∧ Aside0 (kq ≤ kj1) ∧ Aside0 (wc.heap[gb776]? = some (.cells #[.int .i64 0, .int .i64 0, (.slice none 0 0)] 59 (0, 0))) ∧ Aside0 (Below w.heap.size w wc))
   case first =>
    have H := HC6.out; clear HC6
    by_cases c7 : x12_1 = true
    · subst c7; have H1 : (impl_decodeFrame.j3 kj1 l0 (l0.length : Int) true) = some (r1, r2, r3, r4, r5) := by rw [if_pos rfl] at H; exact H
      clear H; have H := H1; clear H1; have H' := ak H; clear H; go_wp2
      go_meet
      case rel => exact ⟨_, (true), eqA, H', ⟨xq49⟩, ⟨blkA⟩, ⟨belA⟩⟩
    replace c7 := Bool.eq_false_iff.mpr c7; subst c7; have H1 : (if (l0.length : Int) > 1 then (if 1 < (l0.length : Int) then (impl_decodeFrame.j1 kj1 l0 (l0.length : Int) ((rd l0 1) != 77)) else (none)) else (impl_decodeFrame.j1 kj1 l0 (l0.length : Int) false)) = some (r1, r2, r3, r4, r5) := by rw [if_neg (show ¬ (false = true) by decide)] at H; exact H
    clear H; have H := H1; clear H1; have HC8 := ak H; clear H; go_upto_region 3 with (fail)
    go_cut [12] (fun v12 wc => ∃ (kq : Nat) (x12_7 : Bool), v12 = .bool x12_7 ∧ Aside0 (impl_decodeFrame.j1 kq l0 (l0.length : Int) x12_7 = some (r1, r2, r3, r4, r5)) ∧ Aside0 (kq ≤ kj1) ∧ Aside0 (wc.heap[gb776]? = some (.cells #[.int .i64 0, .int .i64 0, (.slice none 0 0)] 59 (0, 0))) ∧ Aside0 (Below w.heap.size w wc))
    case first =>
     have H := HC8.out; clear HC8
     by_cases c9 : (l0.length : Int) > 1; rotate_left
     · rw [if_neg c9] at H; have c9b0 : decide (1 < (l0.length : Int)) = false := decide_eq_false c9; have c9b1 : decide (1 < l0.length) = false := decide_eq_false (by omega); clear c9; (first | rw [c9b0] | (simp only [i64_w, i32_w]; rw [c9b0]) | skip)
       have H' := ak H; clear H; go_wp2
       go_meet
       case rel => exact ⟨_, (false), eqA, H', ⟨xq49⟩, ⟨blkA⟩, ⟨belA⟩⟩
     rw [if_pos c9] at H; have c9b0 : decide (1 < (l0.length : Int)) = true := decide_eq_true c9; have c9b1 : decide (1 < l0.length) = true := decide_eq_true (by omega); clear c9; (first | rw [c9b0] | (simp only [i64_w, i32_w]; rw [c9b0]) | skip)
     by_cases c10 : 1 < (l0.length : Int); rotate_left
     · rw [if_neg c10] at H; exact absurd H (by simp)
     rw [if_pos c10] at H; have c10b0 := decide_eq_true c10; have c10b1 : decide (1 < l0.length) = true := decide_eq_true (by omega); clear c10; have H' := ak H; clear H; have p778 : 0 ≤ (1 : Int) := (by omega); have q778 : 1 < (l0.length : Int) := odA; obtain ⟨ad778, e778, hx778_0⟩ := Kd.at_int HR0.out 1 p778 q778
     cases e778
     (try simp only [show (1 : Int).toNat = 1 from rfl, Nat.reduceMul, Nat.reduceEqDiff, Go.Addr.add, ↓reduceIte] at hx778_0)
     have qi778 : (1 < l0.length) = True := eq_true (by omega); (try rw [show ((1 : Int)).toNat = 1 from rfl] at hx778_0)
     try replace hx778_0 := cB HB hx778_0
     replace p778 := eq_true p778; replace q778 := eq_true q778; go_wp2
     go_meet
     case rel => exact ⟨_, (((rd l0 1) != 77)), eqA, H', ⟨xq49⟩, ⟨blkA⟩, ⟨belA⟩⟩
    case rest =>
     clear HC8; obtain ⟨kq, x12_7, rfl, HA, HJ7, BK776, HB⟩ := hcut
     cases kq with
     | zero => exact absurd HA.out (by simp [impl_decodeFrame.j1])
     | succ kj7 =>
      have H := HA.out; clear HA; simp only [impl_decodeFrame.j1] at H
      by_cases c11 : x12_7 = true
      · subst c11; have H1 : (impl_decodeFrame.j3 kj7 l0 (l0.length : Int) true) = some (r1, r2, r3, r4, r5) := by rw [if_pos rfl] at H; exact H
        clear H; have H := H1; clear H1; have H' := ak H; clear H; go_wp2
        go_meet
        case rel => exact ⟨_, (true), eqA, H', ⟨xq50⟩, ⟨blkA⟩, ⟨belA⟩⟩
      replace c11 := Bool.eq_false_iff.mpr c11; subst c11; have H1 : (if (l0.length : Int) > 2 then (if 2 < (l0.length : Int) then (impl_decodeFrame.j2 kj7 l0 (l0.length : Int) (decide ((rd l0 2) > 99))) else (none)) else (impl_decodeFrame.j2 kj7 l0 (l0.length : Int) false)) = some (r1, r2, r3, r4, r5) := by rw [if_neg (show ¬ (false = true) by decide)] at H; exact H
      clear H; have H := H1; clear H1; have HC12 := ak H; clear H; go_upto_region 4 with (fail)
      go_cut [12] (fun v12 wc => ∃ (kq : Nat) (x12_11 : Bool), v12 = .bool x12_11 ∧ Aside0 (impl_decodeFrame.j2 kq l0 (l0.length : Int) x12_11 = some (r1, r2, r3, r4, r5)) ∧ Aside0 (kq ≤ kj7) ∧ Aside0 (wc.heap[gb776]? = some (.cells #[.int .i64 0, .int .i64 0, (.slice none 0 0)] 59 (0, 0))) ∧ Aside0 (Below w.heap.size w wc))
      case first =>
       have H := HC12.out; clear HC12
       by_cases c13 : (l0.length : Int) > 2; rotate_left
       · rw [if_neg c13] at H; have c13b0 : decide (2 < (l0.length : Int)) = false := decide_eq_false c13; have c13b1 : decide (2 < l0.length) = false := decide_eq_false (by omega); clear c13; (first | rw [c13b0] | (simp only [i64_w, i32_w]; rw [c13b0]) | skip)
         have H' := ak H; clear H; go_wp2
         go_meet
         case rel => exact ⟨_, (false), eqA, H', ⟨xq50⟩, ⟨blkA⟩, ⟨belA⟩⟩
       rw [if_pos c13] at H; have c13b0 : decide (2 < (l0.length : Int)) = true := decide_eq_true c13; have c13b1 : decide (2 < l0.length) = true := decide_eq_true (by omega); clear c13; (first | rw [c13b0] | (simp only [i64_w, i32_w]; rw [c13b0]) | skip)
       by_cases c14 : 2 < (l0.length : Int); rotate_left
       · rw [if_neg c14] at H; exact absurd H (by simp)
       rw [if_pos c14] at H; have c14b0 := decide_eq_true c14; have c14b1 : decide (2 < l0.length) = true := decide_eq_true (by omega); clear c14; have H' := ak H; clear H; have p779 : 0 ≤ (2 : Int) := (by omega); have q779 : 2 < (l0.length : Int) := odA; obtain ⟨ad779, e779, hx779_0⟩ := Kd.at_int HR0.out 2 p779 q779
       cases e779
       (try simp only [show (2 : Int).toNat = 2 from rfl, Nat.reduceMul, Nat.reduceEqDiff, Go.Addr.add, ↓reduceIte] at hx779_0)
       have qi779 : (2 < l0.length) = True := eq_true (by omega); (try rw [show ((2 : Int)).toNat = 2 from rfl] at hx779_0)
       try replace hx779_0 := cB HB hx779_0
       replace p779 := eq_true p779; replace q779 := eq_true q779; go_wp2
       go_meet
       case rel => exact ⟨_, (decide ((rd l0 2) > 99)), eqA, H', ⟨xq50⟩, ⟨blkA⟩, ⟨belA⟩⟩
      case rest =>
       clear HC12; obtain ⟨kq, x12_11, rfl, HA, HJ11, BK776, HB⟩ := hcut
       cases kq with
       | zero => exact absurd HA.out (by simp [impl_decodeFrame.j2])
       | succ kj11 =>
        have H := HA.out; clear HA; simp only [impl_decodeFrame.j2] at H
        by_cases c15 : x12_11 = true
        · subst c15; have H1 : (impl_decodeFrame.j3 kj11 l0 (l0.length : Int) true) = some (r1, r2, r3, r4, r5) := by rw [if_pos rfl] at H; exact H
          clear H; have H := H1; clear H1; have H' := ak H; clear H; go_wp2
          go_meet
          case rel => exact ⟨_, (true), eqA, H', ⟨xq30⟩, ⟨blkA⟩, ⟨belA⟩⟩
        replace c15 := Bool.eq_false_iff.mpr c15; subst c15; have H1 : (if (l0.length : Int) > 3 then (if 3 < (l0.length : Int) then (if (rd l0 3) > 127 then (impl_decodeFrame.j3 kj11 l0 (l0.length : Int) (decide ((rd l0 3) > 127))) else (if (l0.length : Int) > 7 then (if 7 < (l0.length : Int) then (impl_decodeFrame.j3 kj11 l0 (l0.length : Int) (decide ((wrap64 (rd l0 7)) > 19))) else (none)) else (impl_decodeFrame.j3 kj11 l0 (l0.length : Int) false))) else (none)) else (if (l0.length : Int) > 7 then (if 7 < (l0.length : Int) then (impl_decodeFrame.j3 kj11 l0 (l0.length : Int) (decide ((wrap64 (rd l0 7)) > 19))) else (none)) else (impl_decodeFrame.j3 kj11 l0 (l0.length : Int) false))) = some (r1, r2, r3, r4, r5) := by rw [if_neg (show ¬ (false = true) by decide)] at H; exact H
        clear H; have H := H1; clear H1
        by_cases c16 : (l0.length : Int) > 3; rotate_left
        · rw [if_neg c16] at H; have c16b0 : decide (3 < (l0.length : Int)) = false := decide_eq_false c16; have c16b1 : decide (3 < l0.length) = false := decide_eq_false (by omega); clear c16
          by_cases c21 : (l0.length : Int) > 7; rotate_left
          · rw [if_neg c21] at H; have c21b0 : decide (7 < (l0.length : Int)) = false := decide_eq_false c21; have c21b1 : decide (7 < l0.length) = false := decide_eq_false (by omega); clear c21; have H' := ak H; clear H; go_wp2
            go_meet
            case rel => exact ⟨_, (false), eqA, H', ⟨xq30⟩, ⟨blkA⟩, ⟨belA⟩⟩
          rw [if_pos c21] at H; have c21b0 : decide (7 < (l0.length : Int)) = true := decide_eq_true c21; have c21b1 : decide (7 < l0.length) = true := decide_eq_true (by omega); clear c21
          by_cases c22 : 7 < (l0.length : Int); rotate_left
          · rw [if_neg c22] at H; exact absurd H (by simp)
          rw [if_pos c22] at H; have c22b0 := decide_eq_true c22; have c22b1 : decide (7 < l0.length) = true := decide_eq_true (by omega); clear c22; have H' := ak H; clear H; have p782 : 0 ≤ (7 : Int) := (by omega); have q782 : 7 < (l0.length : Int) := odA; obtain ⟨ad782, e782, hx782_0⟩ := Kd.at_int HR0.out 7 p782 q782
          cases e782
          (try simp only [show (7 : Int).toNat = 7 from rfl, Nat.reduceMul, Nat.reduceEqDiff, Go.Addr.add, ↓reduceIte] at hx782_0)
          have qi782 : (7 < l0.length) = True := eq_true (by omega); (try rw [show ((7 : Int)).toNat = 7 from rfl] at hx782_0)
          try replace hx782_0 := cB HB hx782_0
          replace p782 := eq_true p782; replace q782 := eq_true q782; go_wp2
          go_meet
          case rel => exact ⟨_, (decide ((wrap64 (rd l0 7)) > 19)), eqA, H', ⟨xq30⟩, ⟨blkA⟩, ⟨belA⟩⟩
        rw [if_pos c16] at H; have c16b0 : decide (3 < (l0.length : Int)) = true := decide_eq_true c16; have c16b1 : decide (3 < l0.length) = true := decide_eq_true (by omega); clear c16
        by_cases c17 : 3 < (l0.length : Int); rotate_left
        · rw [if_neg c17] at H; exact absurd H (by simp)
        rw [if_pos c17] at H; have c17b0 := decide_eq_true c17; have c17b1 : decide (3 < l0.length) = true := decide_eq_true (by omega); clear c17
        by_cases c18 : (rd l0 3) > 127
        · rw [if_pos c18] at H; have c18b0 : decide (127 < (rd l0 3)) = true := decide_eq_true c18; clear c18; have H' := ak H; clear H; have p780 : 0 ≤ (3 : Int) := (by omega); have q780 : 3 < (l0.length : Int) := odA; obtain ⟨ad780, e780, hx780_0⟩ := Kd.at_int HR0.out 3 p780 q780
          cases e780
          (try simp only [show (3 : Int).toNat = 3 from rfl, Nat.reduceMul, Nat.reduceEqDiff, Go.Addr.add, ↓reduceIte] at hx780_0)
          have qi780 : (3 < l0.length) = True := eq_true (by omega); (try rw [show ((3 : Int)).toNat = 3 from rfl] at hx780_0)
          try replace hx780_0 := cB HB hx780_0
          replace p780 := eq_true p780; replace q780 := eq_true q780; go_wp2
          go_meet
          case rel => exact ⟨_, (decide ((rd l0 3) > 127)), eqA, H', ⟨xq30⟩, ⟨blkA⟩, ⟨belA⟩⟩
        rw [if_neg c18] at H; have c18b0 : decide (127 < (rd l0 3)) = false := decide_eq_false c18; clear c18
        by_cases c19 : (l0.length : Int) > 7; rotate_left
        · rw [if_neg c19] at H; have c19b0 : decide (7 < (l0.length : Int)) = false := decide_eq_false c19; have c19b1 : decide (7 < l0.length) = false := decide_eq_false (by omega); clear c19; have H' := ak H; clear H; have p780 : 0 ≤ (3 : Int) := (by omega); have q780 : 3 < (l0.length : Int) := odA; obtain ⟨ad780, e780, hx780_0⟩ := Kd.at_int HR0.out 3 p780 q780
          cases e780
          (try simp only [show (3 : Int).toNat = 3 from rfl, Nat.reduceMul, Nat.reduceEqDiff, Go.Addr.add, ↓reduceIte] at hx780_0)
          have qi780 : (3 < l0.length) = True := eq_true (by omega); (try rw [show ((3 : Int)).toNat = 3 from rfl] at hx780_0)
          try replace hx780_0 := cB HB hx780_0
          replace p780 := eq_true p780; replace q780 := eq_true q780; go_wp2
          go_meet
          case rel => exact ⟨_, (false), eqA, H', ⟨xq30⟩, ⟨blkA⟩, ⟨belA⟩⟩
        rw [if_pos c19] at H; have c19b0 : decide (7 < (l0.length : Int)) = true := decide_eq_true c19; have c19b1 : decide (7 < l0.length) = true := decide_eq_true (by omega); clear c19
        by_cases c20 : 7 < (l0.length : Int); rotate_left
        · rw [if_neg c20] at H; exact absurd H (by simp)
        rw [if_pos c20] at H; have c20b0 := decide_eq_true c20; have c20b1 : decide (7 < l0.length) = true := decide_eq_true (by omega); clear c20; have H' := ak H; clear H; have p780 : 0 ≤ (3 : Int) := (by omega); have q780 : 3 < (l0.length : Int) := odA; obtain ⟨ad780, e780, hx780_0⟩ := Kd.at_int HR0.out 3 p780 q780
        cases e780
        (try simp only [show (3 : Int).toNat = 3 from rfl, Nat.reduceMul, Nat.reduceEqDiff, Go.Addr.add, ↓reduceIte] at hx780_0)
        have qi780 : (3 < l0.length) = True := eq_true (by omega); (try rw [show ((3 : Int)).toNat = 3 from rfl] at hx780_0)
        try replace hx780_0 := cB HB hx780_0
        replace p780 := eq_true p780; replace q780 := eq_true q780; have p781 : 0 ≤ (7 : Int) := (by omega); have q781 : 7 < (l0.length : Int) := odA; obtain ⟨ad781, e781, hx781_0⟩ := Kd.at_int HR0.out 7 p781 q781; obtain rfl : ad780 = ad781 := (by injection e781); (try simp only [show (7 : Int).toNat = 7 from rfl, Nat.reduceMul, Nat.reduceEqDiff, Go.Addr.add, ↓reduceIte] at hx781_0)
        have qi781 : (7 < l0.length) = True := eq_true (by omega); (try rw [show ((7 : Int)).toNat = 7 from rfl] at hx781_0)
        try replace hx781_0 := cB HB hx781_0
        replace p781 := eq_true p781; replace q781 := eq_true q781; go_wp2
        go_meet
        case rel => exact ⟨_, (decide ((wrap64 (rd l0 7)) > 19)), eqA, H', ⟨xq30⟩, ⟨blkA⟩, ⟨belA⟩⟩
   case rest =>
    clear HC6; obtain ⟨kq, x12_5, rfl, HA, HJ5, BK776, HB⟩ := hcut
    cases kq with
    | zero => exact absurd HA.out (by simp [impl_decodeFrame.j3])
    | succ kj5 =>
     have H := HA.out; clear HA; simp only [impl_decodeFrame.j3] at H
     by_cases c23 : x12_5 = true
     · subst c23; have H1 : (some (0, 0, ([] : List Int), 0, 2)) = some (r1, r2, r3, r4, r5) := by rw [if_pos rfl] at H; exact H
       clear H; have H := H1; clear H1; simp only [Option.some.injEq, Prod.mk.injEq] at H; obtain ⟨rfl, rfl, rfl, rfl, rfl⟩ := H; obtain ⟨hcz24_0, hcz24_1, hcz24_2, hfz24_0, hfz24_1, hfz24_2⟩ := cel3 BK776; go_wp2
       refine bodyPost_ret (results_ctt rfl _ _ gb776 59 #[.int .i64 0, .int .i64 0, .slice none 0 0] (0, 0) _ rfl xq40 Try.underlying59 rfl (by kernel_rfl)) rfl ?_
       exact ⟨_, xq4, xq19, belA⟩
     replace c23 := Bool.eq_false_iff.mpr c23; subst c23; have H1 : (if (l0.length : Int) < 9 then (some (0, 0, ([] : List Int), 0, 1)) else (if 7 ≤ 9 then (if 9 ≤ (l0.length : Int) then ((impl_numberIn.f kj5 ((l0.take 9).drop 7)).bind fun t784 => (if t784 > 5000 then (some (0, 0, ([] : List Int), 0, 2)) else (if (l0.length : Int) < (wrap64 (9 + t784)) then (some (0, 0, ([] : List Int), 0, 1)) else (if 2 ≤ (wrap64 (9 + t784)) then (if (wrap64 (9 + t784)) ≤ (l0.length : Int) then ((impl_checkSum.f kj5 ((l0.take ((wrap64 (9 + t784)) : Int).toNat).drop 2)).bind fun t786 => ((impl_bigEndian.f kj5 t786 4).bind fun t787 => (impl_decodeFrame.l0 kj5 l0 (l0.length : Int) t784 t787 (t787.length : Int) 0))) else (none)) else (none))))) else (none)) else (none))) = some (r1, r2, r3, r4, r5) := by rw [if_neg (show ¬ (false = true) by decide)] at H; exact H
     clear H; have H := H1; clear H1
     by_cases c25 : (l0.length : Int) < 9
     · rw [if_pos c25] at H; have c25b0 := decide_eq_true c25; have c25b1 : decide (l0.length < 9) = true := decide_eq_true (by omega); clear c25; simp only [Option.some.injEq, Prod.mk.injEq] at H; obtain ⟨rfl, rfl, rfl, rfl, rfl⟩ := H; obtain ⟨hcz26_0, hcz26_1, hcz26_2, hfz26_0, hfz26_1, hfz26_2⟩ := cel3 BK776; go_wp2
       refine bodyPost_ret (results_ctt rfl _ _ gb776 59 #[.int .i64 0, .int .i64 0, .slice none 0 0] (0, 0) _ rfl xq40 Try.underlying59 rfl (by kernel_rfl)) rfl ?_
       exact ⟨_, xq4, xq19, belA⟩
     rw [if_neg c25] at H; have c25b0 := decide_eq_false c25; have c25b1 : decide (l0.length < 9) = false := decide_eq_false (by omega); clear c25
     by_cases c27 : 7 ≤ 9; rotate_left
     · rw [if_neg c27] at H; exact absurd H (by simp)
     rw [if_pos c27] at H; have c27b0 := eq_true c27; have c27b1 : decide (7 ≤ 9) = true := decide_eq_true c27; clear c27
     by_cases c28 : 9 ≤ (l0.length : Int); rotate_left
     · rw [if_neg c28] at H; exact absurd H (by simp)
     rw [if_pos c28] at H; have c28b0 := eq_true c28; have c28b1 : decide (9 ≤ (l0.length : Int)) = true := decide_eq_true c28; clear c28; replace H := Option.bind_eq_some_iff.mp H; obtain ⟨t784, A290, H⟩ := H; (try dsimp only at H); have A29 := ak A290; clear A290
     by_cases c30 : t784 > 5000
     · rw [if_pos c30] at H; have c30b0 : decide (5000 < t784) = true := decide_eq_true c30; clear c30; simp only [Option.some.injEq, Prod.mk.injEq] at H; obtain ⟨rfl, rfl, rfl, rfl, rfl⟩ := H; obtain ⟨i031, hi031, _, hsz31, _⟩ := info_parts info5; obtain ⟨A31, hcut31, hA31, hC31⟩ := print_mid_of (P := Try.prog) (Value.int .u8) 0 35 5 .i64 .i64 Try.underlying35 hi031 hsz31 A0 c0 l0 7 9 (by omega) xq31 (odA) HC0.out; try simp only [hji49] at hcut31
       have HR783 := ak (Kd.C_of_reads (h1 := fun _ => rfl) (hA31 _ (Kd.reads_of_C HR0.out))); have HC783 := ak hC31; clear hA31 hC31 hi031 hsz31; go_wp2_with (first | ((with_reducible refine gate_callee (f := 139) rfl ?_); refine goesL_ (some 61) rfl rfl Try.func139 (by kernel_rfl) rfl #[.slice A31 ((l0.take 9).drop 7).length (c0 - 7)] rfl xq51 ?_; (with_reducible refine (impl_numberIn.calls kj5 _ _ ((l0.take 9).drop 7) t784 _ ?side1 ?side2 A29.out).mono ?_); (case side1 => exact cA (Kd.C_below HR783.out HB.out)); (case side2 => exact HC783.out); rintro e w' ⟨rfl, ⟨nd, rfl⟩⟩; refine ⟨_, rfl, ?_⟩; (try (rw [drewN_self wc]; generalize hq_ : World.drewN wc _ = wc; have n0_ : Aside0 (wc.heap[gb776]? = some (.cells #[.int .i64 0, .int .i64 0, .slice none 0 0] 59 (0, 0))) := ⟨by rw [← hq_]; exact blkA⟩; have n1_ : Aside0 (Below w.heap.size w wc) := ⟨by rw [← hq_]; exact belA⟩; have hcy0_0 : wc.cell? ⟨gb776, 0, none⟩ = some (.int .i64 0) := (blk_cell n0_.out 0).trans rfl; have hfy0_0 := blk_frozen n0_.out 0; have hcy0_1 : wc.cell? ⟨gb776, 1, none⟩ = some (.int .i64 0) := (blk_cell n0_.out 1).trans rfl; have hfy0_1 := blk_frozen n0_.out 1; have hcy0_2 : wc.cell? ⟨gb776, 2, none⟩ = some (.slice none 0 0) := (blk_cell n0_.out 2).trans rfl; have hfy0_2 := blk_frozen n0_.out 2; clear BK776 HB hq_; have BK776 := n0_; have HB := n1_; clear n0_ n1_)); obtain ⟨hcz32_0, hcz32_1, hcz32_2, hfz32_0, hfz32_1, hfz32_2⟩ := cel3 BK776))
       refine bodyPost_ret (results_ctt rfl _ _ gb776 59 #[.int .i64 0, .int .i64 0, .slice none 0 0] (0, 0) _ rfl xq40 Try.underlying59 rfl (by kernel_rfl)) rfl ?_
       exact ⟨_, xq4, xq19, belA⟩
     rw [if_neg c30] at H; have c30b0 : decide (5000 < t784) = false := decide_eq_false c30; clear c30
     by_cases c33 : (l0.length : Int) < (wrap64 (9 + t784))
     · rw [if_pos c33] at H; have c33b0 := decide_eq_true c33; have c33b0w : decide ((l0.length : Int) < (IntKind.i64.wrap (9 + t784))) = true := by simp only [i64_w]; exact c33b0
       clear c33; simp only [Option.some.injEq, Prod.mk.injEq] at H; obtain ⟨rfl, rfl, rfl, rfl, rfl⟩ := H; obtain ⟨i034, hi034, _, hsz34, _⟩ := info_parts info5; obtain ⟨A34, hcut34, hA34, hC34⟩ := print_mid_of (P := Try.prog) (Value.int .u8) 0 35 5 .i64 .i64 Try.underlying35 hi034 hsz34 A0 c0 l0 7 9 (by omega) xq31 (odA) HC0.out; try simp only [hji49] at hcut34
       have HR783 := ak (Kd.C_of_reads (h1 := fun _ => rfl) (hA34 _ (Kd.reads_of_C HR0.out))); have HC783 := ak hC34; clear hA34 hC34 hi034 hsz34; go_wp2_with (first | ((with_reducible refine gate_callee (f := 139) rfl ?_); refine goesL_ (some 61) rfl rfl Try.func139 (by kernel_rfl) rfl #[.slice A34 ((l0.take 9).drop 7).length (c0 - 7)] rfl xq51 ?_; (with_reducible refine (impl_numberIn.calls kj5 _ _ ((l0.take 9).drop 7) t784 _ ?side1 ?side2 A29.out).mono ?_); (case side1 => exact cA (Kd.C_below HR783.out HB.out)); (case side2 => exact HC783.out); rintro e w' ⟨rfl, ⟨nd, rfl⟩⟩; refine ⟨_, rfl, ?_⟩; (try (rw [drewN_self wc]; generalize hq_ : World.drewN wc _ = wc; have n0_ : Aside0 (wc.heap[gb776]? = some (.cells #[.int .i64 0, .int .i64 0, .slice none 0 0] 59 (0, 0))) := ⟨by rw [← hq_]; exact blkA⟩; have n1_ : Aside0 (Below w.heap.size w wc) := ⟨by rw [← hq_]; exact belA⟩; have hcy0_0 : wc.cell? ⟨gb776, 0, none⟩ = some (.int .i64 0) := (blk_cell n0_.out 0).trans rfl; have hfy0_0 := blk_frozen n0_.out 0; have hcy0_1 : wc.cell? ⟨gb776, 1, none⟩ = some (.int .i64 0) := (blk_cell n0_.out 1).trans rfl; have hfy0_1 := blk_frozen n0_.out 1; have hcy0_2 : wc.cell? ⟨gb776, 2, none⟩ = some (.slice none 0 0) := (blk_cell n0_.out 2).trans rfl; have hfy0_2 := blk_frozen n0_.out 2; clear BK776 HB hq_; have BK776 := n0_; have HB := n1_; clear n0_ n1_)); obtain ⟨hcz35_0, hcz35_1, hcz35_2, hfz35_0, hfz35_1, hfz35_2⟩ := cel3 BK776))
       refine bodyPost_ret (results_ctt rfl _ _ gb776 59 #[.int .i64 0, .int .i64 0, .slice none 0 0] (0, 0) _ rfl xq40 Try.underlying59 rfl (by kernel_rfl)) rfl ?_
       exact ⟨_, xq4, xq19, belA⟩
     rw [if_neg c33] at H; have c33b0 := decide_eq_false c33; have c33b0w : decide ((l0.length : Int) < (IntKind.i64.wrap (9 + t784))) = false := by simp only [i64_w]; exact c33b0
     clear c33
     by_cases c36 : 2 ≤ (wrap64 (9 + t784)); rotate_left
     · rw [if_neg c36] at H; exact absurd H (by simp)
     rw [if_pos c36] at H; have c36b0 := eq_true c36; have c36b1 : decide (2 ≤ (wrap64 (9 + t784))) = true := decide_eq_true c36; have c36b1w : decide (2 ≤ (IntKind.i64.wrap (9 + t784))) = true := by simp only [i64_w]; exact c36b1
     by_cases c37 : (wrap64 (9 + t784)) ≤ (l0.length : Int); rotate_left
     · rw [if_neg c37] at H; exact absurd H (by simp)
     rw [if_pos c37] at H; have c37b0 := eq_true c37; have c37b1 : decide ((wrap64 (9 + t784)) ≤ (l0.length : Int)) = true := decide_eq_true c37; have c37b1w : decide ((IntKind.i64.wrap (9 + t784)) ≤ (l0.length : Int)) = true := by simp only [i64_w]; exact c37b1
     replace H := Option.bind_eq_some_iff.mp H; obtain ⟨t786, A380, H⟩ := H; (try dsimp only at H); have A38 := ak A380; clear A380; replace H := Option.bind_eq_some_iff.mp H; obtain ⟨t787, A390, H⟩ := H; (try dsimp only at H); have A39 := ak A390; clear A390; have H' := ak H; clear H; obtain ⟨i040, hi040, _, hsz40, _⟩ := info_parts info5; obtain ⟨A40, hcut40, hA40, hC40⟩ := print_mid_of (P := Try.prog) (Value.int .u8) 0 35 5 .i64 .i64 Try.underlying35 hi040 hsz40 A0 c0 l0 7 9 (by omega) xq31 (odA) HC0.out; try simp only [hji49] at hcut40
     have HR783 := ak (Kd.C_of_reads (h1 := fun _ => rfl) (hA40 _ (Kd.reads_of_C HR0.out))); have HC783 := ak hC40; clear hA40 hC40 hi040 hsz40; go_wp2_with (first | ((with_reducible refine gate_callee (f := 139) rfl ?_); refine goesL_ (some 61) rfl rfl Try.func139 (by kernel_rfl) rfl #[.slice A40 ((l0.take 9).drop 7).length (c0 - 7)] rfl xq51 ?_; (with_reducible refine (impl_numberIn.calls kj5 _ _ ((l0.take 9).drop 7) t784 _ ?side1 ?side2 A29.out).mono ?_); (case side1 => exact cA (Kd.C_below HR783.out HB.out)); (case side2 => exact HC783.out); rintro e w' ⟨rfl, ⟨nd, rfl⟩⟩; refine ⟨_, rfl, ?_⟩; obtain ⟨i041, hi041, _, hsz41, _⟩ := info_parts info5; obtain ⟨A41, hcut41, hA41, hC41⟩ := print_mid_of (P := Try.prog) (Value.int .u8) 0 35 5 .i64 .i64 Try.underlying35 hi041 hsz41 A0 c0 l0 2 (wrap64 (9 + t784)) (by omega) xq31 (odA) HC0.out; have HR785 := ak (Kd.C_of_reads (h1 := fun _ => rfl) (hA41 _ (Kd.reads_of_C HR0.out))); have HC785 := ak hC41; clear hA41 hC41 hi041 hsz41) | ((with_reducible refine gate_callee (f := 127) rfl ?_); refine goesL_ (some 74) rfl rfl Try.func127 (by kernel_rfl) rfl #[.slice A41 ((l0.take ((wrap64 (9 + t784)) : Int).toNat).drop 2).length (c0 - 2)] rfl (by (try simp only [List.map_toArray, List.map_cons, List.map_nil]); first | done | ((try simp only [hji49]); rfl) | (simp only [List.length_drop, List.length_take]; (try simp only [hji49]); rfl) | (rw [show ((l0.take ((wrap64 (9 + t784)) : Int).toNat).drop 2).length = ((wrap64 (9 + t784)).toNat - 2) from xq34] <;> rfl) | rfl | (simp only [List.length_drop, List.length_take]; rfl)) ?_; (with_reducible refine (impl_checkSum.calls kj5 _ _ ((l0.take ((wrap64 (9 + t784)) : Int).toNat).drop 2) t786 _ ?side1 ?side2 A38.out).mono ?_); (case side1 => exact cA (Kd.C_below HR785.out belA)); (case side2 => exact HC785.out); rintro e w' ⟨rfl, ⟨nd, rfl⟩⟩; refine ⟨_, rfl, ?_⟩) | ((with_reducible refine gate_callee (f := 126) rfl ?_); refine goB 75 Try.func126 #[.int .i64 t786, .int .i64 4] rfl ?_; (with_reducible refine (impl_bigEndian.calls kj5 t786 4 t787 _ A39.out).mono ?_); rintro e w42 ⟨v788, rfl, ho0, hb⟩; refine ⟨_, rfl, ?_⟩; have HO789 := rL ho0; replace BK776 := bB BK776 hb; replace HB := bS hb; (try clear hb ho0); obtain ⟨Ao43, co43, eo43⟩ := Kd.R_slice HO789.out; subst eo43))
     go_loopg [77] kj5 (fun kq v77 w' => ∃ (x77_3 : Int) (x777000_3 : Int) (x777001_3 : Int), v77 = .int .i64 x77_3 ∧ Aside0 (impl_decodeFrame.l0 kq l0 (l0.length : Int) t784 t787 (t787.length : Int) x77_3 = some (r1, r2, r3, r4, r5)) ∧ Aside0 (kq ≤ kj5) ∧ Aside0 (Kd.R (Kd.int .u8) 5 w' w.heap.size (fun _ => True) (.slice Ao43 t787.length co43) t787) ∧ Aside0 (w'.heap[gb776]? = some (.cells #[.int .i64 x777000_3, .int .i64 x777001_3, (.slice none 0 0)] 59 (0, 0))) ∧ Aside0 (Below w.heap.size w w'))
     case atStart => exact ⟨(0), (0), (0), eqA, H', ⟨Nat.le_refl _⟩, ⟨rA HO789⟩, ⟨blkA⟩, ⟨belA⟩⟩
     case round =>
      clear H'; obtain ⟨x77_3, x777000_3, x777001_3, rfl, HA, HK3, HO_75, BK776, HB⟩ := hrel
      cases gk with
      | zero => exact absurd HA.out (by simp [impl_decodeFrame.l0])
      | succ k3 =>
       have H := HA.out; clear HA; simp only [impl_decodeFrame.l0] at H
       by_cases c44 : x77_3 < (t787.length : Int)
       · rw [if_pos c44] at H; have c44b0 := decide_eq_true c44; clear c44
         by_cases c45 : 0 ≤ x77_3; rotate_left
         · rw [if_neg c45] at H; exact absurd H (by simp)
         rw [if_pos c45] at H; have c45b0 := decide_eq_true c45; clear c45
         by_cases c46 : x77_3 < (t787.length : Int); rotate_left
         · rw [if_neg c46] at H; exact absurd H (by simp)
         rw [if_pos c46] at H; have c46b0 := decide_eq_true c46; clear c46
         by_cases c47 : (wrap64 ((wrap64 (9 + t784)) + x77_3)) = (l0.length : Int)
         · rw [if_pos c47] at H; have c47b0 : ((wrap64 ((wrap64 (9 + t784)) + x77_3)) == (l0.length : Int)) = true := beq_iff_eq.mpr c47; have c47b1 : ((wrap64 ((wrap64 (9 + t784)) + x77_3)) != (l0.length : Int)) = false := bne_eq_false_iff_eq.mpr c47; clear c47; simp only [Option.some.injEq, Prod.mk.injEq] at H; obtain ⟨rfl, rfl, rfl, rfl, rfl⟩ := H; have p801 : 0 ≤ (x77_3 : Int) := odA; have q801 : x77_3 < (t787.length : Int) := odA; obtain ⟨ad801, e801, hx801_0⟩ := Kd.at_int (Kd.R_reads' HO_75.out).2.2 x77_3 p801 q801
           cases e801
           replace p801 := eq_true p801; replace q801 := eq_true q801; obtain ⟨hcz48_0, hcz48_1, hcz48_2, hfz48_0, hfz48_1, hfz48_2⟩ := cel3 BK776; go_wp2
           refine bodyPost_ret (results_ctt rfl _ _ gb776 59 #[.int .i64 0, .int .i64 0, .slice none 0 0] (0, 0) _ rfl xq82 Try.underlying59 rfl (by kernel_rfl)) rfl ?_
           exact ⟨_, xq4, xq19, belA⟩
         rw [if_neg c47] at H; have c47b0 : ((wrap64 ((wrap64 (9 + t784)) + x77_3)) == (l0.length : Int)) = false := beq_eq_false_iff_ne.mpr c47; have c47b1 : ((wrap64 ((wrap64 (9 + t784)) + x77_3)) != (l0.length : Int)) = true := bne_iff_ne.mpr c47; obtain ⟨ji49, hji49⟩ : ∃ j_ : Int, (wrap64 ((wrap64 (9 + t784)) + x77_3)) = j_ := ⟨_, rfl⟩; replace H : (if 0 ≤ (ji49) then (if (ji49) < (l0.length : Int) then (if (rd l0 (ji49)) = (rd t787 x77_3) then (impl_decodeFrame.l0 k3 l0 (l0.length : Int) t784 t787 (t787.length : Int) (wrap64 (x77_3 + 1))) else (some (0, 0, ([] : List Int), 0, 2))) else (none)) else (none)) = some (r1, r2, r3, r4, r5) := by first | (rw [hji49] at H; exact H) | (simp only [hji49] at H ⊢; exact H)
         (try rw [hji49] at c47b0)
         (try rw [hji49] at c47b1)
         have hji49w : (IntKind.i64.wrap ((wrap64 (9 + t784)) + x77_3)) = ji49 := (i64_w _).trans hji49
         by_cases c50 : 0 ≤ (ji49); rotate_left
         · rw [if_neg c50] at H; exact absurd H (by simp)
         rw [if_pos c50] at H; have c50b0 := decide_eq_true c50; clear c50
         by_cases c51 : (ji49) < (l0.length : Int); rotate_left
         · rw [if_neg c51] at H; exact absurd H (by simp)
         rw [if_pos c51] at H; have c51b0 := decide_eq_true c51; clear c51
         by_cases c52 : (rd l0 (ji49)) = (rd t787 x77_3)
         · rw [if_pos c52] at H; have c52b0 : ((rd l0 (ji49)) == (rd t787 x77_3)) = true := beq_iff_eq.mpr c52; have c52b1 : ((rd l0 (ji49)) != (rd t787 x77_3)) = false := bne_eq_false_iff_eq.mpr c52; clear c52; have H' := ak H; clear H; have p801 : 0 ≤ (x77_3 : Int) := odA; have q801 : x77_3 < (t787.length : Int) := odA; obtain ⟨ad801, e801, hx801_0⟩ := Kd.at_int (Kd.R_reads' HO_75.out).2.2 x77_3 p801 q801
           cases e801
           replace p801 := eq_true p801; replace q801 := eq_true q801; have p802 : 0 ≤ ((ji49) : Int) := odA; have q802 : (ji49) < (l0.length : Int) := odA; obtain ⟨ad802, e802, hx802_0⟩ := Kd.at_int HR0.out (ji49) p802 q802
           cases e802
           try replace hx802_0 := cB HB hx802_0
           replace p802 := eq_true p802; replace q802 := eq_true q802; go_wp2
           go_roundg k3
           case measure => have := HJ1.out; have := HJ5.out; have := HK3.out; omega
           case rel => exact ⟨(wrap64 (x77_3 + 1)), (x777000_3), (x777001_3), eqA, H', ⟨by have := HJ1.out; have := HJ5.out; have := HK3.out; omega⟩, ⟨rA HO_75⟩, ⟨blkA⟩, ⟨belA⟩⟩
         rw [if_neg c52] at H; have c52b0 : ((rd l0 (ji49)) == (rd t787 x77_3)) = false := beq_eq_false_iff_ne.mpr c52; have c52b1 : ((rd l0 (ji49)) != (rd t787 x77_3)) = true := bne_iff_ne.mpr c52; simp only [Option.some.injEq, Prod.mk.injEq] at H; obtain ⟨rfl, rfl, rfl, rfl, rfl⟩ := H; have p801 : 0 ≤ (x77_3 : Int) := odA; have q801 : x77_3 < (t787.length : Int) := odA; obtain ⟨ad801, e801, hx801_0⟩ := Kd.at_int (Kd.R_reads' HO_75.out).2.2 x77_3 p801 q801
         cases e801
         replace p801 := eq_true p801; replace q801 := eq_true q801; have p802 : 0 ≤ ((ji49) : Int) := odA; have q802 : (ji49) < (l0.length : Int) := odA; obtain ⟨ad802, e802, hx802_0⟩ := Kd.at_int HR0.out (ji49) p802 q802
         cases e802
         try replace hx802_0 := cB HB hx802_0
         replace p802 := eq_true p802; replace q802 := eq_true q802; obtain ⟨hcz53_0, hcz53_1, hcz53_2, hfz53_0, hfz53_1, hfz53_2⟩ := cel3 BK776; go_wp2
         refine bodyPost_ret (results_ctt rfl _ _ gb776 59 #[.int .i64 0, .int .i64 0, .slice none 0 0] (0, 0) _ rfl xq82 Try.underlying59 rfl (by kernel_rfl)) rfl ?_
         exact ⟨_, by first | rfl | (simp [errW_none, errW_some] <;> rfl) | (simp only [← hji49]; first | rfl | (simp [errW_none, errW_some] <;> rfl)) | (simp [*, errW_none, errW_some] <;> rfl) | (simp [wrap64]; done) | (simp [*, wrap64]; done), xq19, belA⟩
       rw [if_neg c44] at H; have c44b0 := decide_eq_false c44; clear c44
       by_cases c54 : 2 < (l0.length : Int); rotate_left
       · rw [if_neg c54] at H; exact absurd H (by simp)
       rw [if_pos c54] at H; have c54b0 := decide_eq_true c54; have c54b1 : decide (2 < l0.length) = true := decide_eq_true (by omega); clear c54
       by_cases c55 : 3 ≤ 7; rotate_left
       · rw [if_neg c55] at H; exact absurd H (by simp)
       rw [if_pos c55] at H; have c55b0 := eq_true c55; have c55b1 : decide (3 ≤ 7) = true := decide_eq_true c55; clear c55
       by_cases c56 : 7 ≤ (l0.length : Int); rotate_left
       · rw [if_neg c56] at H; exact absurd H (by simp)
       rw [if_pos c56] at H; have c56b0 := eq_true c56; have c56b1 : decide (7 ≤ (l0.length : Int)) = true := decide_eq_true c56; clear c56; replace H := Option.bind_eq_some_iff.mp H; obtain ⟨t792, A570, H⟩ := H; (try dsimp only at H); have A57 := ak A570; clear A570; obtain ⟨y793, hyq⟩ : ∃ y_ : List Int, y_ = (([] : List Int)) := ⟨_, rfl⟩; replace H : (if 9 ≤ (wrap64 (9 + t784)) then (if (wrap64 (9 + t784)) ≤ (l0.length : Int) then (if y793.length + ((l0.take ((wrap64 (9 + t784)) : Int).toNat).drop 9).length < 140737488355328 then (some (wrap64 (rd l0 2), t792, (y793 ++ ((l0.take ((wrap64 (9 + t784)) : Int).toNat).drop 9)), wrap64 (13 + t784), 0)) else (none)) else (none)) else (none)) = some (r1, r2, r3, r4, r5) := by first | (rw [hyq]; with_reducible exact H) | (have H2_ := (Option.bind_some _ _).symm.trans H; rw [hyq]; with_reducible exact H2_) | (have H2_ := (Option.bind_some _ _).symm.trans H; with_reducible exact H2_) | with_reducible exact H | (rw [hyq]; exact H) | exact H
       have Ny793 := ak hyq; clear hyq
       by_cases c58 : 9 ≤ (wrap64 (9 + t784)); rotate_left
       · rw [if_neg c58] at H; exact absurd H (by simp)
       rw [if_pos c58] at H; have c58b0 := eq_true c58; have c58b1 : decide (9 ≤ (wrap64 (9 + t784))) = true := decide_eq_true c58; have c58b1w : decide (9 ≤ (IntKind.i64.wrap (9 + t784))) = true := by simp only [i64_w]; exact c58b1
       by_cases c59 : (wrap64 (9 + t784)) ≤ (l0.length : Int); rotate_left
       · rw [if_neg c59] at H; exact absurd H (by simp)
       rw [if_pos c59] at H; have c59b0 := eq_true c59; have c59b1 : decide ((wrap64 (9 + t784)) ≤ (l0.length : Int)) = true := decide_eq_true c59; have c59b1w : decide ((IntKind.i64.wrap (9 + t784)) ≤ (l0.length : Int)) = true := by simp only [i64_w]; exact c59b1
       by_cases c60 : y793.length + ((l0.take ((wrap64 (9 + t784)) : Int).toNat).drop 9).length < 140737488355328; rotate_left
       · rw [if_neg c60] at H; exact absurd H (by simp)
       rw [if_pos c60] at H; have LMc60 := ak c60; clear c60; obtain ⟨y797, hyq⟩ : ∃ y_ : List Int, y_ = (y793 ++ ((l0.take ((wrap64 (9 + t784)) : Int).toNat).drop 9)) := ⟨_, rfl⟩; replace H : (some (wrap64 (rd l0 2), t792, y797, wrap64 (13 + t784), 0)) = some (r1, r2, r3, r4, r5) := by first | (rw [hyq]; with_reducible exact H) | (have H2_ := (Option.bind_some _ _).symm.trans H; rw [hyq]; with_reducible exact H2_) | (have H2_ := (Option.bind_some _ _).symm.trans H; with_reducible exact H2_) | with_reducible exact H | (rw [hyq]; exact H) | exact H
       have Ny797 := ak hyq; clear hyq; simp only [Option.some.injEq, Prod.mk.injEq] at H; obtain ⟨rfl, rfl, rfl, rfl, rfl⟩ := H; try go_wp2
       replace HO_75 := ak (Kd.R_drew HO_75.out); replace BK776 := ak (blk_drew BK776.out); replace HB := ak (below_drew1 HB.out); have p790 : 0 ≤ (2 : Int) := (by omega); have q790 : 2 < (l0.length : Int) := odA; obtain ⟨ad790, e790, hx790_0⟩ := Kd.at_int HR0.out 2 p790 q790; have hw790_0 := hx790_0; (try rw [show ((2 : Int)).toNat = 2 from rfl] at hw790_0)
       (try rw [show 2 * 1 = 2 from rfl] at hw790_0)
       (try simp only [Nat.reduceMul, Nat.reduceEqDiff, Go.Addr.add, ↓reduceIte] at hw790_0)
       cases e790
       (try simp only [show (2 : Int).toNat = 2 from rfl, Nat.reduceMul, Nat.reduceEqDiff, Go.Addr.add, ↓reduceIte] at hx790_0)
       have qi790 : (2 < l0.length) = True := eq_true (by omega); (try rw [show ((2 : Int)).toNat = 2 from rfl] at hx790_0)
       try replace hx790_0 := cB HB hx790_0
       replace p790 := eq_true p790; replace q790 := eq_true q790; obtain ⟨i062, hi062, _, hsz62, _⟩ := info_parts info5; obtain ⟨A62, hcut62, hA62, hC62⟩ := print_mid_of (P := Try.prog) (Value.int .u8) 0 35 5 .i64 .i64 Try.underlying35 hi062 hsz62 (some ad790) c0 l0 3 7 (by omega) xq31 (odA) HC0.out; try simp only [hji49] at hcut62
       have HR791 := ak (Kd.C_of_reads (h1 := fun _ => rfl) (hA62 _ (Kd.reads_of_C HR0.out))); have HC791 := ak hC62; clear hA62 hC62 hi062 hsz62; obtain ⟨i063, hi063, _, hsz63, _⟩ := info_parts info5; obtain ⟨A63, hcut63, hA63, hC63⟩ := print_mid_of (P := Try.prog) (Value.int .u8) 0 35 5 .i64 .i64 Try.underlying35 hi063 hsz63 (some ad790) c0 l0 9 (wrap64 (9 + t784)) (by omega) xq31 (odA) HC0.out; try simp only [hji49] at hcut63
       have HR796 := ak (Kd.C_of_reads (h1 := fun _ => rfl) (hA63 _ (Kd.reads_of_C HR0.out))); have HC796 := ak hC63; clear hA63 hC63 hi063 hsz63; refine start_ (n := 16) (S := fun w' => w'.cell? ⟨ad790.block, ad790.off + 2, none⟩ = some (.int .u8 (rd l0 2))) (ds := []) #[false, false, false, false, false, false, false, false, false, false, false, false, false, false, false, false] (by kernel_rfl) rfl rfl (((HB.out.cell (World.block_lt_of_cell? w _ hw790_0)).trans hw790_0)) (fun hHeld => ?_); refine with_tabW impl_decodeFrame.tab23 impl_decodeFrame.bits23 (fun HT_ HW_ => ?_)
       generalize wr.drew = w61 at HO_75 BK776 HB HR791 HR796 hx790_0 hHeld ⊢
       refine pure_ (i := 0) (N := some 100) (v := ?_) (a' := ?_) #[true, false, false, false, false, false, false, false, false, false, false, false, false, false, false, false] rfl rfl (any_of HT_.out (by kernel_rfl)) (fun _ _ _ h => h) (Or.inl ⟨by rfl, ?_⟩) ?_ ?_
       rotate_left
       · intro w'; go_simp
         with_reducible rfl
       rotate_left
       · simp only [Act.put, sa, sb, sc, i64_w, i32_w]
         rfl
       refine pure_ (i := 1) (N := some 101) (v := ?_) (a' := ?_) #[true, true, false, false, false, false, false, false, false, false, false, false, false, false, false, false] rfl rfl (any_of HT_.out (by kernel_rfl)) (fun _ _ _ h => h) (Or.inl ⟨by rfl, ?_⟩) ?_ ?_
       rotate_left
       · intro w'; go_simp
         with_reducible rfl
       rotate_left
       · simp only [Act.put, sa, sb, sc, i64_w, i32_w]
         rfl
       refine pure_ (i := 4) (N := some 104) (v := ?_) (a' := ?_) #[true, true, false, false, true, false, false, false, false, false, false, false, false, false, false, false] rfl rfl (any_of HT_.out (by kernel_rfl)) (fun _ _ _ h => h) (Or.inl ⟨by rfl, ?_⟩) ?_ ?_
       rotate_left
       · intro w'; go_simp
         with_reducible rfl
       rotate_left
       · simp only [Act.put, sa, sb, sc, i64_w, i32_w]
         rfl
       refine pure_ (i := 5) (N := some 105) (v := ?_) (a' := ?_) #[true, true, false, false, true, true, false, false, false, false, false, false, false, false, false, false] rfl rfl (any_of HT_.out (by kernel_rfl)) (fun _ _ _ h => h) (Or.inl ⟨by rfl, ?_⟩) ?_ ?_
       rotate_left
       · intro w'; go_simp
         with_reducible rfl
       rotate_left
       · simp only [Act.put, sa, sb, sc, i64_w, i32_w]
         rfl
       refine pure_ (i := 8) (N := some 108) (v := ?_) (a' := ?_) #[true, true, false, false, true, true, false, false, true, false, false, false, false, false, false, false] rfl rfl (any_of HT_.out (by kernel_rfl)) (fun _ _ _ h => h) (Or.inl ⟨by rfl, ?_⟩) ?_ ?_
       rotate_left
       · intro w'; go_simp
         with_reducible rfl
       rotate_left
       · simp only [Act.put, sa, sb, sc, i64_w, i32_w]
         rfl
       refine pure_ (i := 9) (N := some 109) (v := ?_) (a' := ?_) #[true, true, false, false, true, true, false, false, true, true, false, false, false, false, false, false] rfl rfl (any_of HT_.out (by kernel_rfl)) (fun _ _ _ h => h) (Or.inl ⟨by rfl, ?_⟩) ?_ ?_
       rotate_left
       · intro w'; go_simp
         with_reducible rfl
       rotate_left
       · simp only [Act.put, sa, sb, sc, i64_w, i32_w]
         rfl
       refine pure_ (i := 10) (N := some 110) (v := ?_) (a' := ?_) #[true, true, false, false, true, true, false, false, true, true, true, false, false, false, false, false] rfl rfl (any_of HT_.out (by kernel_rfl)) (fun _ _ _ h => h) (Or.inl ⟨by rfl, ?_⟩) ?_ ?_
       rotate_left
       · intro w'; go_simp
         with_reducible rfl
       rotate_left
       · simp only [Act.put, sa, sb, sc, i64_w, i32_w]
         rfl
       refine pure_ (i := 11) (N := some 111) (v := ?_) (a' := ?_) #[true, true, false, false, true, true, false, false, true, true, true, true, false, false, false, false] rfl rfl (any_of HT_.out (by kernel_rfl)) (fun _ _ _ h => h) (Or.inl ⟨by rfl, ?_⟩) ?_ ?_
       rotate_left
       · intro w'; go_simp
         with_reducible rfl
       rotate_left
       · simp only [Act.put, sa, sb, sc, i64_w, i32_w]
         rfl
       refine take_ (i := 2) (N := some 102) (v := ?_) (a' := ?_) #[true, true, true, false, true, true, false, false, true, true, true, true, false, false, false, false] rfl rfl (take_ofW HT_.out HW_.out (by kernel_rfl)) (fun _ _ _ h => h) (Or.inl ⟨by rfl, ?_⟩) hHeld ?_ ?_
       rotate_left
       · intro w' s0; go_simp
         with_reducible rfl
       rotate_left
       · simp only [Act.put, sa, sb, sc, i64_w, i32_w]
         rfl
       refine pure_ (i := 3) (N := some 103) (v := ?_) (a' := ?_) #[true, true, true, true, true, true, false, false, true, true, true, true, false, false, false, false] rfl rfl (any_of HT_.out (by kernel_rfl)) (fun _ _ _ h => h) (Or.inl ⟨by rfl, ?_⟩) ?_ ?_
       rotate_left
       · intro w'; go_simp
         with_reducible rfl
       rotate_left
       · simp only [Act.put, sa, sb, sc, i64_w, i32_w]
         rfl
       refine join_ (σ := Value × Value × Nat) 1 #[true, true, true, true, true, true, true, true, true, true, true, true, true, true, true, false] (fun s_ => [(106, .int .i64 t792), (107, s_.1), (112, s_.2.1), (9, .pointer (some ⟨s_.2.2, 0, none⟩)), (113, .agg #[.int .i64 (wrap64 (rd l0 2)), .int .i64 t792, s_.2.1])]) (fun s_ w' => (w'.cell? ⟨ad790.block, ad790.off + 2, none⟩ = some (.int .u8 (rd l0 2))) ∧ (Kd.R (Kd.int .u8) 5 w' w.heap.size (fun k_ => some k_ ≠ (.slice Ao43 t787.length co43 : Value).ownBlock) s_.2.1 y797) ∧ (Kd.R (Kd.int .u8) 5 w' w.heap.size (fun k_ => some k_ ≠ (s_.2.1 : Value).ownBlock) (.slice Ao43 t787.length co43) t787) ∧ (w'.heap[gb776]? = some (.cells #[.int .i64 x777000_3, .int .i64 x777001_3, .slice none 0 0] 59 (0, 0))) ∧ (w'.heap[s_.2.2]? = some (.cells #[.int .i64 0, .int .i64 0, .slice none 0 0] 59 (0, 0))) ∧ (w.heap.size ≤ s_.2.2) ∧ (w.heap.size ≤ s_.2.2) ∧ (gb776 ≠ s_.2.2) ∧ (s_.2.2 ≠ gb776) ∧ (Below w.heap.size w w')) ?_ ?_
       rotate_left
       · intro hJ6_7_12_14; refine join_ (σ := Value × Value) 2 #[true, true, true, true, true, true, true, true, true, true, true, true, true, true, false, false] (fun s_ => [(106, .int .i64 t792), (107, s_.1), (112, s_.2), (113, .agg #[.int .i64 (wrap64 (rd l0 2)), .int .i64 t792, s_.2])]) (fun s_ w' => (w'.cell? ⟨ad790.block, ad790.off + 2, none⟩ = some (.int .u8 (rd l0 2))) ∧ (Kd.R (Kd.int .u8) 5 w' w.heap.size (fun k_ => some k_ ≠ (.slice Ao43 t787.length co43 : Value).ownBlock) s_.2 y797) ∧ (Kd.R (Kd.int .u8) 5 w' w.heap.size (fun k_ => some k_ ≠ (s_.2 : Value).ownBlock) (.slice Ao43 t787.length co43) t787) ∧ (w'.heap[gb776]? = some (.cells #[.int .i64 x777000_3, .int .i64 x777001_3, .slice none 0 0] 59 (0, 0))) ∧ (Below w.heap.size w w')) ?_ ?_
         rotate_left
         · intro hJ6_7_12; refine join_ (σ := Value × Nat) 3 #[true, true, true, true, true, true, true, true, true, true, true, true, false, false, true, false] (fun s_ => [(106, .int .i64 t792), (107, s_.1), (9, .pointer (some ⟨s_.2, 0, none⟩))]) (fun s_ w' => (w'.cell? ⟨ad790.block, ad790.off + 2, none⟩ = some (.int .u8 (rd l0 2))) ∧ (Kd.R (Kd.int .u8) 5 w' w.heap.size (fun k_ => some k_ ≠ (.slice Ao43 t787.length co43 : Value).ownBlock) s_.1 y793) ∧ (Kd.R (Kd.int .u8) 5 w' w.heap.size (fun k_ => some k_ ≠ (s_.1 : Value).ownBlock) (.slice Ao43 t787.length co43) t787) ∧ (w'.heap[gb776]? = some (.cells #[.int .i64 x777000_3, .int .i64 x777001_3, .slice none 0 0] 59 (0, 0))) ∧ (w'.heap[s_.2]? = some (.cells #[.int .i64 0, .int .i64 0, .slice none 0 0] 59 (0, 0))) ∧ (w.heap.size ≤ s_.2) ∧ (w.heap.size ≤ s_.2) ∧ (gb776 ≠ s_.2) ∧ (s_.2 ≠ gb776) ∧ (Below w.heap.size w w')) ?_ ?_
           rotate_left
           · intro hJ6_7_14; refine join_ (σ := Value) 4 #[true, true, true, true, true, true, true, true, true, true, true, true, false, false, false, false] (fun s_ => [(106, .int .i64 t792), (107, s_)]) (fun s_ w' => (w'.cell? ⟨ad790.block, ad790.off + 2, none⟩ = some (.int .u8 (rd l0 2))) ∧ (Kd.R (Kd.int .u8) 5 w' w.heap.size (fun k_ => some k_ ≠ (.slice Ao43 t787.length co43 : Value).ownBlock) s_ y793) ∧ (Kd.R (Kd.int .u8) 5 w' w.heap.size (fun k_ => some k_ ≠ (s_ : Value).ownBlock) (.slice Ao43 t787.length co43) t787) ∧ (w'.heap[gb776]? = some (.cells #[.int .i64 x777000_3, .int .i64 x777001_3, .slice none 0 0] 59 (0, 0))) ∧ (Below w.heap.size w w')) ?_ ?_
             rotate_left
             · intro hJ6_7; refine join_ (σ := Nat) 4 #[true, true, true, true, true, true, true, false, true, true, true, true, false, false, true, false] (fun s_ => [(106, .int .i64 t792), (9, .pointer (some ⟨s_, 0, none⟩))]) (fun s_ w' => (w'.cell? ⟨ad790.block, ad790.off + 2, none⟩ = some (.int .u8 (rd l0 2))) ∧ (Kd.R (Kd.int .u8) 5 w' w.heap.size (fun _ => True) (.slice Ao43 t787.length co43) t787) ∧ (w'.heap[gb776]? = some (.cells #[.int .i64 x777000_3, .int .i64 x777001_3, .slice none 0 0] 59 (0, 0))) ∧ (w'.heap[s_]? = some (.cells #[.int .i64 0, .int .i64 0, .slice none 0 0] 59 (0, 0))) ∧ (w.heap.size ≤ s_) ∧ (w.heap.size ≤ s_) ∧ (gb776 ≠ s_) ∧ (s_ ≠ gb776) ∧ (Below w.heap.size w w')) ?_ ?_
               rotate_left
               · intro hJ6_14; refine join_ (σ := Value × Nat) 4 #[true, true, true, true, true, true, false, true, true, true, true, true, false, false, true, false] (fun s_ => [(107, s_.1), (9, .pointer (some ⟨s_.2, 0, none⟩))]) (fun s_ w' => (w'.cell? ⟨ad790.block, ad790.off + 2, none⟩ = some (.int .u8 (rd l0 2))) ∧ (Kd.R (Kd.int .u8) 5 w' w.heap.size (fun k_ => some k_ ≠ (.slice Ao43 t787.length co43 : Value).ownBlock) s_.1 y793) ∧ (Kd.R (Kd.int .u8) 5 w' w.heap.size (fun k_ => some k_ ≠ (s_.1 : Value).ownBlock) (.slice Ao43 t787.length co43) t787) ∧ (w'.heap[gb776]? = some (.cells #[.int .i64 x777000_3, .int .i64 x777001_3, .slice none 0 0] 59 (0, 0))) ∧ (w'.heap[s_.2]? = some (.cells #[.int .i64 0, .int .i64 0, .slice none 0 0] 59 (0, 0))) ∧ (w.heap.size ≤ s_.2) ∧ (w.heap.size ≤ s_.2) ∧ (gb776 ≠ s_.2) ∧ (s_.2 ≠ gb776) ∧ (Below w.heap.size w w')) ?_ ?_
                 rotate_left
                 · intro hJ7_14; refine join_ (σ := Unit) 5 #[true, true, true, true, true, true, true, false, true, true, true, true, false, false, false, false] (fun s_ => [(106, .int .i64 t792)]) (fun s_ w' => (w'.cell? ⟨ad790.block, ad790.off + 2, none⟩ = some (.int .u8 (rd l0 2))) ∧ (Kd.R (Kd.int .u8) 5 w' w.heap.size (fun _ => True) (.slice Ao43 t787.length co43) t787) ∧ (w'.heap[gb776]? = some (.cells #[.int .i64 x777000_3, .int .i64 x777001_3, .slice none 0 0] 59 (0, 0))) ∧ (Below w.heap.size w w')) ?_ ?_
                   rotate_left
                   · intro hJ6; refine join_ (σ := Value) 5 #[true, true, true, true, true, true, false, true, true, true, true, true, false, false, false, false] (fun s_ => [(107, s_)]) (fun s_ w' => (w'.cell? ⟨ad790.block, ad790.off + 2, none⟩ = some (.int .u8 (rd l0 2))) ∧ (Kd.R (Kd.int .u8) 5 w' w.heap.size (fun k_ => some k_ ≠ (.slice Ao43 t787.length co43 : Value).ownBlock) s_ y793) ∧ (Kd.R (Kd.int .u8) 5 w' w.heap.size (fun k_ => some k_ ≠ (s_ : Value).ownBlock) (.slice Ao43 t787.length co43) t787) ∧ (w'.heap[gb776]? = some (.cells #[.int .i64 x777000_3, .int .i64 x777001_3, .slice none 0 0] 59 (0, 0))) ∧ (Below w.heap.size w w')) ?_ ?_
                     rotate_left
                     · intro hJ7; refine join_ (σ := Nat) 5 #[true, true, true, true, true, true, false, false, true, true, true, true, false, false, true, false] (fun s_ => [(9, .pointer (some ⟨s_, 0, none⟩))]) (fun s_ w' => (w'.cell? ⟨ad790.block, ad790.off + 2, none⟩ = some (.int .u8 (rd l0 2))) ∧ (Kd.R (Kd.int .u8) 5 w' w.heap.size (fun _ => True) (.slice Ao43 t787.length co43) t787) ∧ (w'.heap[gb776]? = some (.cells #[.int .i64 x777000_3, .int .i64 x777001_3, .slice none 0 0] 59 (0, 0))) ∧ (w'.heap[s_]? = some (.cells #[.int .i64 0, .int .i64 0, .slice none 0 0] 59 (0, 0))) ∧ (w.heap.size ≤ s_) ∧ (w.heap.size ≤ s_) ∧ (gb776 ≠ s_) ∧ (s_ ≠ gb776) ∧ (Below w.heap.size w w')) ?_ ?_
                       rotate_left
                       · intro hJ14; refine three_ (i := 6) (j := 7) (k := 14) (Ni := some 106) (Nj := some 107) (Nk := some 9) #[true, true, true, true, true, true, true, false, true, true, true, true, false, false, false, false] #[true, true, true, true, true, true, false, true, true, true, true, true, false, false, false, false] #[true, true, true, true, true, true, false, false, true, true, true, true, false, false, true, false] rfl rfl rfl rfl rfl rfl (three_of HT_.out (by kernel_rfl)) (by decide) (by decide) (by decide) (fun K hK => ?_) (fun K hK => ?_) (fun K hK => ?_)
                         · skip
                           refine goes_ Try.func139 (by kernel_rfl) rfl #[.slice A62 ((l0.take 7).drop 3).length (c0 - 3)] (by rfl) rfl rfl xq41 ?_
                           with_reducible refine (impl_numberIn.calls k3 _ _ ((l0.take 7).drop 3) t792 _ ?side1 ?side2 A57.out).mono ?_
                           (case side1 => exact cA (Kd.C_below HR791.out HB.out))
                           (case side2 => exact HC791.out)
                           rintro e w' ⟨rfl, ⟨nd, rfl⟩⟩
                           refine ⟨_, rfl, ?_⟩
                           refine hK.out _ _ (((HB.out.cell (World.block_lt_of_cell? w _ hw790_0)).trans hw790_0)) (fun hHeld => ?_)
                           clear hK K; refine norm_ (a' := ?_) ?_ ?_
                           rotate_left
                           · show Act.put _ (some 106) _ = _
                             simp only [Act.put, sa, sb, sc, i64_w, i32_w]
                             rfl
                           exact norm_ xq17 (hJ6 () _ ⟨hHeld, (rF HO_75), blkA, belA⟩)
                         · skip
                           refine Kd.R_lit_step (Kd.int .u8) _ 5 ?hg (N := 107) ?hd (xs := ([] : List Int)) (inner := []) (ok := fun _ => True) (okp := fun _ => True) ?hr ?hp (fun _ hk => hk) trivial (Below.refl _ _) (Nat.le_refl _) (by simp) ?_; (case hd => rfl); (case hg => rfl); (case hr => exact xq9); (case hp => exact (Reps.none _ _))
                           intro v794 w64 ho65 hb hg_ hnew_; clear hg_ hnew_; (first | rw [← Ny793.out] at ho65 | (simp only [Int.reduceToNat] at ho65; rw [← Ny793.out] at ho65))
                           have HO795 := rL (Kd.R_new' ho65 (Kd.R_lt (rF HO_75))); replace HO_75 := ak (Kd.R_elder' (rF HO_75) (Kd.R_base ho65) hb); replace BK776 := bB BK776 hb; replace HB := bS hb; clear hb ho65; refine hK.out _ _ (((HB.out.cell (World.block_lt_of_cell? w _ hw790_0)).trans hw790_0)) (fun hHeld => ?_)
                           clear hK K; refine norm_ (a' := ?_) ?_ ?_
                           rotate_left
                           · show Act.put _ (some 107) _ = _
                             simp only [Act.put, sa, sb, sc, i64_w, i32_w]
                             rfl
                           exact norm_ xq17 (hJ7 (v794) _ ⟨hHeld, (rE (Kd.R_mono HO795.out (fun _ hk => hk.2))), (rE (Kd.R_mono HO_75.out (fun _ hk => hk.2))), blkA, belA⟩)
                         · skip
                           refine box_step ?hg (N := 9) ?hd (cs := #[.int .i64 0, .int .i64 0, .slice none 0 0]) (t := 59) ?hr ?_; (case hd => rfl); (case hg => rfl); (case hr => exact xq9)
                           intro gb800 hg w64 hbox hb; have BK800 := ak hbox; have GW800 := leA (w := w) hg; have GE800 := leA (w := w) hg; have NB776_800 := neL hg BK776; have NB800_776 := neG hg BK776; replace HO_75 := ak (Kd.R_below (rF HO_75) hb); replace BK776 := bB BK776 hb; replace HB := bS hb; clear hb hbox hg; refine hK.out _ _ (((HB.out.cell (World.block_lt_of_cell? w _ hw790_0)).trans hw790_0)) (fun hHeld => ?_)
                           clear hK K; refine norm_ (a' := ?_) ?_ ?_
                           rotate_left
                           · show Act.put _ (some 9) _ = _
                             simp only [Act.put, sa, sb, sc, i64_w, i32_w]
                             rfl
                           exact norm_ xq17 (hJ14 (gb800) _ ⟨hHeld, (rF HO_75), blkA, blkA, GW800.out, GE800.out, NB776_800.out, NB800_776.out, belA⟩)
                       · skip
                         rintro gb800 w65 ⟨hS_, h0_, h1_, h2_, h3_, h4_, h5_, h6_, h7_⟩
                         have n0_ : Aside0 (Kd.R (Kd.int .u8) 5 w65 w.heap.size (fun _ => True) (.slice Ao43 t787.length co43) t787) := ⟨h0_⟩; have n1_ : Aside0 (w65.heap[gb776]? = some (.cells #[.int .i64 x777000_3, .int .i64 x777001_3, .slice none 0 0] 59 (0, 0))) := ⟨h1_⟩; have n2_ : Aside0 (w65.heap[gb800]? = some (.cells #[.int .i64 0, .int .i64 0, .slice none 0 0] 59 (0, 0))) := ⟨h2_⟩; have n3_ : Aside0 (w.heap.size ≤ gb800) := ⟨h3_⟩; have n4_ : Aside0 (w.heap.size ≤ gb800) := ⟨h4_⟩; have n5_ : Aside0 (gb776 ≠ gb800) := ⟨h5_⟩; have n6_ : Aside0 (gb800 ≠ gb776) := ⟨h6_⟩; have n7_ : Aside0 (Below w.heap.size w w65) := ⟨h7_⟩; clear HO_75; clear BK776; clear HB; clear h0_ h1_ h2_ h3_ h4_ h5_ h6_ h7_; have HO_75 := n0_; have BK776 := n1_; have BK800 := n2_; have GW800 := n3_; have GE800 := n4_; have NB776_800 := n5_; have NB800_776 := n6_; have HB := n7_; clear n0_ n1_ n2_ n3_ n4_ n5_ n6_ n7_; have hHeld : w65.cell? ⟨ad790.block, ad790.off + 2, none⟩ = some (.int .u8 (rd l0 2)) := hS_; refine norm_ (a' := ?_) ?_ ?_
                         rotate_left
                         · simp only [putAll, Act.put, sa, sb, sc]
                           rfl
                         refine two_ (i := 6) (j := 7) (Ni := some 106) (Nj := some 107) #[true, true, true, true, true, true, true, false, true, true, true, true, false, false, true, false] #[true, true, true, true, true, true, false, true, true, true, true, true, false, false, true, false] rfl rfl rfl rfl (two_of HT_.out (by kernel_rfl)) (by decide) (by decide) (fun K hK => ?_) (fun K hK => ?_)
                         · skip
                           refine goes_ Try.func139 (by kernel_rfl) rfl #[.slice A62 ((l0.take 7).drop 3).length (c0 - 3)] (by rfl) rfl rfl xq41 ?_
                           with_reducible refine (impl_numberIn.calls k3 _ _ ((l0.take 7).drop 3) t792 _ ?side1 ?side2 A57.out).mono ?_
                           (case side1 => exact cA (Kd.C_below HR791.out HB.out))
                           (case side2 => exact HC791.out)
                           rintro e w' ⟨rfl, ⟨nd, rfl⟩⟩
                           refine ⟨_, rfl, ?_⟩
                           refine hK.out _ _ (((HB.out.cell (World.block_lt_of_cell? w _ hw790_0)).trans hw790_0)) (fun hHeld => ?_)
                           clear hK K; refine norm_ (a' := ?_) ?_ ?_
                           rotate_left
                           · show Act.put _ (some 106) _ = _
                             simp only [Act.put, sa, sb, sc, i64_w, i32_w]
                             rfl
                           exact norm_ xq17 (hJ6_14 (gb800) _ ⟨hHeld, (rF HO_75), blkA, blkA, GW800.out, GE800.out, NB776_800.out, NB800_776.out, belA⟩)
                         · skip
                           refine Kd.R_lit_step (Kd.int .u8) _ 5 ?hg (N := 107) ?hd (xs := ([] : List Int)) (inner := []) (ok := fun _ => True) (okp := fun _ => True) ?hr ?hp (fun _ hk => hk) trivial (Below.refl _ _) (Nat.le_refl _) (by simp) ?_; (case hd => rfl); (case hg => rfl); (case hr => exact xq9); (case hp => exact (Reps.none _ _))
                           intro v794 w66 ho67 hb hg_ hnew_; clear hg_ hnew_; (first | rw [← Ny793.out] at ho67 | (simp only [Int.reduceToNat] at ho67; rw [← Ny793.out] at ho67))
                           have HO795 := rL (Kd.R_new' ho67 (Kd.R_lt (rF HO_75))); replace HO_75 := ak (Kd.R_elder' (rF HO_75) (Kd.R_base ho67) hb); replace BK776 := bB BK776 hb; replace BK800 := bB BK800 hb; replace HB := bS hb; clear hb ho67; refine hK.out _ _ (((HB.out.cell (World.block_lt_of_cell? w _ hw790_0)).trans hw790_0)) (fun hHeld => ?_)
                           clear hK K; refine norm_ (a' := ?_) ?_ ?_
                           rotate_left
                           · show Act.put _ (some 107) _ = _
                             simp only [Act.put, sa, sb, sc, i64_w, i32_w]
                             rfl
                           exact norm_ xq17 (hJ7_14 (v794, gb800) _ ⟨hHeld, (rE (Kd.R_mono HO795.out (fun _ hk => hk.2))), (rE (Kd.R_mono HO_75.out (fun _ hk => hk.2))), blkA, blkA, GW800.out, GE800.out, NB776_800.out, NB800_776.out, belA⟩)
                     · skip
                       rintro v794 w66 ⟨hS_, h0_, h1_, h2_, h3_⟩
                       have n0_ : Aside0 (Kd.R (Kd.int .u8) 5 w66 w.heap.size (fun k_ => some k_ ≠ (.slice Ao43 t787.length co43 : Value).ownBlock) v794 y793) := ⟨h0_⟩; have n1_ : Aside0 (Kd.R (Kd.int .u8) 5 w66 w.heap.size (fun k_ => some k_ ≠ (v794 : Value).ownBlock) (.slice Ao43 t787.length co43) t787) := ⟨h1_⟩; have n2_ : Aside0 (w66.heap[gb776]? = some (.cells #[.int .i64 x777000_3, .int .i64 x777001_3, .slice none 0 0] 59 (0, 0))) := ⟨h2_⟩; have n3_ : Aside0 (Below w.heap.size w w66) := ⟨h3_⟩; clear HO_75; clear BK776; clear HB; clear h0_ h1_ h2_ h3_; have HO795 := n0_; have HO_75 := n1_; have BK776 := n2_; have HB := n3_; clear n0_ n1_ n2_ n3_; have hHeld : w66.cell? ⟨ad790.block, ad790.off + 2, none⟩ = some (.int .u8 (rd l0 2)) := hS_; refine norm_ (a' := ?_) ?_ ?_
                       rotate_left
                       · simp only [putAll, Act.put, sa, sb, sc]
                         rfl
                       refine two_ (i := 6) (j := 14) (Ni := some 106) (Nj := some 9) #[true, true, true, true, true, true, true, true, true, true, true, true, false, false, false, false] #[true, true, true, true, true, true, false, true, true, true, true, true, false, false, true, false] rfl rfl rfl rfl (two_of HT_.out (by kernel_rfl)) (by decide) (by decide) (fun K hK => ?_) (fun K hK => ?_)
                       · skip
                         refine goes_ Try.func139 (by kernel_rfl) rfl #[.slice A62 ((l0.take 7).drop 3).length (c0 - 3)] (by rfl) rfl rfl xq41 ?_
                         with_reducible refine (impl_numberIn.calls k3 _ _ ((l0.take 7).drop 3) t792 _ ?side1 ?side2 A57.out).mono ?_
                         (case side1 => exact cA (Kd.C_below HR791.out HB.out))
                         (case side2 => exact HC791.out)
                         rintro e w' ⟨rfl, ⟨nd, rfl⟩⟩
                         refine ⟨_, rfl, ?_⟩
                         refine hK.out _ _ (((HB.out.cell (World.block_lt_of_cell? w _ hw790_0)).trans hw790_0)) (fun hHeld => ?_)
                         clear hK K; refine norm_ (a' := ?_) ?_ ?_
                         rotate_left
                         · show Act.put _ (some 106) _ = _
                           simp only [Act.put, sa, sb, sc, i64_w, i32_w]
                           rfl
                         exact norm_ xq17 (hJ6_7 (v794) _ ⟨hHeld, (rF HO795), (rF HO_75), blkA, belA⟩)
                       · skip
                         refine box_step ?hg (N := 9) ?hd (cs := #[.int .i64 0, .int .i64 0, .slice none 0 0]) (t := 59) ?hr ?_; (case hd => rfl); (case hg => rfl); (case hr => exact xq9)
                         intro gb800 hg w67 hbox hb; have BK800 := ak hbox; have GW800 := leA (w := w) hg; have GE800 := leA (w := w) hg; have NB776_800 := neL hg BK776; have NB800_776 := neG hg BK776; replace HO_75 := ak (Kd.R_below (rF HO_75) hb); replace HO795 := ak (Kd.R_below (rF HO795) hb); replace BK776 := bB BK776 hb; replace HB := bS hb; clear hb hbox hg; refine hK.out _ _ (((HB.out.cell (World.block_lt_of_cell? w _ hw790_0)).trans hw790_0)) (fun hHeld => ?_)
                         clear hK K; refine norm_ (a' := ?_) ?_ ?_
                         rotate_left
                         · show Act.put _ (some 9) _ = _
                           simp only [Act.put, sa, sb, sc, i64_w, i32_w]
                           rfl
                         exact norm_ xq17 (hJ7_14 (v794, gb800) _ ⟨hHeld, (rF HO795), (rF HO_75), blkA, blkA, GW800.out, GE800.out, NB776_800.out, NB800_776.out, belA⟩)
                   · skip
                     rintro _ w64 ⟨hS_, h0_, h1_, h2_⟩
                     have n0_ : Aside0 (Kd.R (Kd.int .u8) 5 w64 w.heap.size (fun _ => True) (.slice Ao43 t787.length co43) t787) := ⟨h0_⟩; have n1_ : Aside0 (w64.heap[gb776]? = some (.cells #[.int .i64 x777000_3, .int .i64 x777001_3, .slice none 0 0] 59 (0, 0))) := ⟨h1_⟩; have n2_ : Aside0 (Below w.heap.size w w64) := ⟨h2_⟩; clear HO_75; clear BK776; clear HB; clear h0_ h1_ h2_; have HO_75 := n0_; have BK776 := n1_; have HB := n2_; clear n0_ n1_ n2_; have hHeld : w64.cell? ⟨ad790.block, ad790.off + 2, none⟩ = some (.int .u8 (rd l0 2)) := hS_; refine norm_ (a' := ?_) ?_ ?_
                     rotate_left
                     · simp only [putAll, Act.put, sa, sb, sc]
                       rfl
                     refine two_ (i := 7) (j := 14) (Ni := some 107) (Nj := some 9) #[true, true, true, true, true, true, true, true, true, true, true, true, false, false, false, false] #[true, true, true, true, true, true, true, false, true, true, true, true, false, false, true, false] rfl rfl rfl rfl (two_of HT_.out (by kernel_rfl)) (by decide) (by decide) (fun K hK => ?_) (fun K hK => ?_)
                     · skip
                       refine Kd.R_lit_step (Kd.int .u8) _ 5 ?hg (N := 107) ?hd (xs := ([] : List Int)) (inner := []) (ok := fun _ => True) (okp := fun _ => True) ?hr ?hp (fun _ hk => hk) trivial (Below.refl _ _) (Nat.le_refl _) (by simp) ?_; (case hd => rfl); (case hg => rfl); (case hr => exact xq9); (case hp => exact (Reps.none _ _))
                       intro v794 w65 ho66 hb hg_ hnew_; clear hg_ hnew_; (first | rw [← Ny793.out] at ho66 | (simp only [Int.reduceToNat] at ho66; rw [← Ny793.out] at ho66))
                       have HO795 := rL (Kd.R_new' ho66 (Kd.R_lt (rF HO_75))); replace HO_75 := ak (Kd.R_elder' (rF HO_75) (Kd.R_base ho66) hb); replace BK776 := bB BK776 hb; replace HB := bS hb; clear hb ho66; refine hK.out _ _ (((HB.out.cell (World.block_lt_of_cell? w _ hw790_0)).trans hw790_0)) (fun hHeld => ?_)
                       clear hK K; refine norm_ (a' := ?_) ?_ ?_
                       rotate_left
                       · show Act.put _ (some 107) _ = _
                         simp only [Act.put, sa, sb, sc, i64_w, i32_w]
                         rfl
                       exact norm_ xq17 (hJ6_7 (v794) _ ⟨hHeld, (rE (Kd.R_mono HO795.out (fun _ hk => hk.2))), (rE (Kd.R_mono HO_75.out (fun _ hk => hk.2))), blkA, belA⟩)
                     · skip
                       refine box_step ?hg (N := 9) ?hd (cs := #[.int .i64 0, .int .i64 0, .slice none 0 0]) (t := 59) ?hr ?_; (case hd => rfl); (case hg => rfl); (case hr => exact xq9)
                       intro gb800 hg w65 hbox hb; have BK800 := ak hbox; have GW800 := leA (w := w) hg; have GE800 := leA (w := w) hg; have NB776_800 := neL hg BK776; have NB800_776 := neG hg BK776; replace HO_75 := ak (Kd.R_below (rF HO_75) hb); replace BK776 := bB BK776 hb; replace HB := bS hb; clear hb hbox hg; refine hK.out _ _ (((HB.out.cell (World.block_lt_of_cell? w _ hw790_0)).trans hw790_0)) (fun hHeld => ?_)
                       clear hK K; refine norm_ (a' := ?_) ?_ ?_
                       rotate_left
                       · show Act.put _ (some 9) _ = _
                         simp only [Act.put, sa, sb, sc, i64_w, i32_w]
                         rfl
                       exact norm_ xq17 (hJ6_14 (gb800) _ ⟨hHeld, (rF HO_75), blkA, blkA, GW800.out, GE800.out, NB776_800.out, NB800_776.out, belA⟩)
                 · skip
                   rintro ⟨v794, gb800⟩ w67 ⟨hS_, h0_, h1_, h2_, h3_, h4_, h5_, h6_, h7_, h8_⟩
                   have n0_ : Aside0 (Kd.R (Kd.int .u8) 5 w67 w.heap.size (fun k_ => some k_ ≠ (.slice Ao43 t787.length co43 : Value).ownBlock) v794 y793) := ⟨h0_⟩; have n1_ : Aside0 (Kd.R (Kd.int .u8) 5 w67 w.heap.size (fun k_ => some k_ ≠ (v794 : Value).ownBlock) (.slice Ao43 t787.length co43) t787) := ⟨h1_⟩; have n2_ : Aside0 (w67.heap[gb776]? = some (.cells #[.int .i64 x777000_3, .int .i64 x777001_3, .slice none 0 0] 59 (0, 0))) := ⟨h2_⟩; have n3_ : Aside0 (w67.heap[gb800]? = some (.cells #[.int .i64 0, .int .i64 0, .slice none 0 0] 59 (0, 0))) := ⟨h3_⟩; have n4_ : Aside0 (w.heap.size ≤ gb800) := ⟨h4_⟩; have n5_ : Aside0 (w.heap.size ≤ gb800) := ⟨h5_⟩; have n6_ : Aside0 (gb776 ≠ gb800) := ⟨h6_⟩; have n7_ : Aside0 (gb800 ≠ gb776) := ⟨h7_⟩; have n8_ : Aside0 (Below w.heap.size w w67) := ⟨h8_⟩; clear HO_75; clear BK776; clear HB; clear h0_ h1_ h2_ h3_ h4_ h5_ h6_ h7_ h8_; have HO795 := n0_; have HO_75 := n1_; have BK776 := n2_; have BK800 := n3_; have GW800 := n4_; have GE800 := n5_; have NB776_800 := n6_; have NB800_776 := n7_; have HB := n8_; clear n0_ n1_ n2_ n3_ n4_ n5_ n6_ n7_ n8_; have hHeld : w67.cell? ⟨ad790.block, ad790.off + 2, none⟩ = some (.int .u8 (rd l0 2)) := hS_; refine norm_ (a' := ?_) ?_ ?_
                   rotate_left
                   · simp only [putAll, Act.put, sa, sb, sc]
                     rfl
                   refine one_ (i := 6) (N := some 106) #[true, true, true, true, true, true, true, true, true, true, true, true, false, false, true, false] rfl rfl (one_of HT_.out (by kernel_rfl)) (by decide) (fun K hK => ?_)
                   refine goes_ Try.func139 (by kernel_rfl) rfl #[.slice A62 ((l0.take 7).drop 3).length (c0 - 3)] (by rfl) rfl rfl xq41 ?_
                   with_reducible refine (impl_numberIn.calls k3 _ _ ((l0.take 7).drop 3) t792 _ ?side1 ?side2 A57.out).mono ?_
                   (case side1 => exact cA (Kd.C_below HR791.out HB.out))
                   (case side2 => exact HC791.out)
                   rintro e w' ⟨rfl, ⟨nd, rfl⟩⟩
                   refine ⟨_, rfl, ?_⟩
                   refine hK.out _ _ (((HB.out.cell (World.block_lt_of_cell? w _ hw790_0)).trans hw790_0)) (fun hHeld => ?_)
                   clear hK K; refine norm_ (a' := ?_) ?_ ?_
                   rotate_left
                   · show Act.put _ (some 106) _ = _
                     simp only [Act.put, sa, sb, sc, i64_w, i32_w]
                     rfl
                   exact norm_ xq17 (hJ6_7_14 (v794, gb800) _ ⟨hHeld, (rF HO795), (rF HO_75), blkA, blkA, GW800.out, GE800.out, NB776_800.out, NB800_776.out, belA⟩)
               · skip
                 rintro gb800 w65 ⟨hS_, h0_, h1_, h2_, h3_, h4_, h5_, h6_, h7_⟩
                 have n0_ : Aside0 (Kd.R (Kd.int .u8) 5 w65 w.heap.size (fun _ => True) (.slice Ao43 t787.length co43) t787) := ⟨h0_⟩; have n1_ : Aside0 (w65.heap[gb776]? = some (.cells #[.int .i64 x777000_3, .int .i64 x777001_3, .slice none 0 0] 59 (0, 0))) := ⟨h1_⟩; have n2_ : Aside0 (w65.heap[gb800]? = some (.cells #[.int .i64 0, .int .i64 0, .slice none 0 0] 59 (0, 0))) := ⟨h2_⟩; have n3_ : Aside0 (w.heap.size ≤ gb800) := ⟨h3_⟩; have n4_ : Aside0 (w.heap.size ≤ gb800) := ⟨h4_⟩; have n5_ : Aside0 (gb776 ≠ gb800) := ⟨h5_⟩; have n6_ : Aside0 (gb800 ≠ gb776) := ⟨h6_⟩; have n7_ : Aside0 (Below w.heap.size w w65) := ⟨h7_⟩; clear HO_75; clear BK776; clear HB; clear h0_ h1_ h2_ h3_ h4_ h5_ h6_ h7_; have HO_75 := n0_; have BK776 := n1_; have BK800 := n2_; have GW800 := n3_; have GE800 := n4_; have NB776_800 := n5_; have NB800_776 := n6_; have HB := n7_; clear n0_ n1_ n2_ n3_ n4_ n5_ n6_ n7_; have hHeld : w65.cell? ⟨ad790.block, ad790.off + 2, none⟩ = some (.int .u8 (rd l0 2)) := hS_; refine norm_ (a' := ?_) ?_ ?_
                 rotate_left
                 · simp only [putAll, Act.put, sa, sb, sc]
                   rfl
                 refine one_ (i := 7) (N := some 107) #[true, true, true, true, true, true, true, true, true, true, true, true, false, false, true, false] rfl rfl (one_of HT_.out (by kernel_rfl)) (by decide) (fun K hK => ?_)
                 refine Kd.R_lit_step (Kd.int .u8) _ 5 ?hg (N := 107) ?hd (xs := ([] : List Int)) (inner := []) (ok := fun _ => True) (okp := fun _ => True) ?hr ?hp (fun _ hk => hk) trivial (Below.refl _ _) (Nat.le_refl _) (by simp) ?_; (case hd => rfl); (case hg => rfl); (case hr => exact xq9); (case hp => exact (Reps.none _ _))
                 intro v794 w66 ho67 hb hg_ hnew_; clear hg_ hnew_; (first | rw [← Ny793.out] at ho67 | (simp only [Int.reduceToNat] at ho67; rw [← Ny793.out] at ho67))
                 have HO795 := rL (Kd.R_new' ho67 (Kd.R_lt (rF HO_75))); replace HO_75 := ak (Kd.R_elder' (rF HO_75) (Kd.R_base ho67) hb); replace BK776 := bB BK776 hb; replace BK800 := bB BK800 hb; replace HB := bS hb; clear hb ho67; refine hK.out _ _ (((HB.out.cell (World.block_lt_of_cell? w _ hw790_0)).trans hw790_0)) (fun hHeld => ?_)
                 clear hK K; refine norm_ (a' := ?_) ?_ ?_
                 rotate_left
                 · show Act.put _ (some 107) _ = _
                   simp only [Act.put, sa, sb, sc, i64_w, i32_w]
                   rfl
                 exact norm_ xq17 (hJ6_7_14 (v794, gb800) _ ⟨hHeld, (rE (Kd.R_mono HO795.out (fun _ hk => hk.2))), (rE (Kd.R_mono HO_75.out (fun _ hk => hk.2))), blkA, blkA, GW800.out, GE800.out, NB776_800.out, NB800_776.out, belA⟩)
             · skip
               rintro v794 w66 ⟨hS_, h0_, h1_, h2_, h3_⟩
               have n0_ : Aside0 (Kd.R (Kd.int .u8) 5 w66 w.heap.size (fun k_ => some k_ ≠ (.slice Ao43 t787.length co43 : Value).ownBlock) v794 y793) := ⟨h0_⟩; have n1_ : Aside0 (Kd.R (Kd.int .u8) 5 w66 w.heap.size (fun k_ => some k_ ≠ (v794 : Value).ownBlock) (.slice Ao43 t787.length co43) t787) := ⟨h1_⟩; have n2_ : Aside0 (w66.heap[gb776]? = some (.cells #[.int .i64 x777000_3, .int .i64 x777001_3, .slice none 0 0] 59 (0, 0))) := ⟨h2_⟩; have n3_ : Aside0 (Below w.heap.size w w66) := ⟨h3_⟩; clear HO_75; clear BK776; clear HB; clear h0_ h1_ h2_ h3_; have HO795 := n0_; have HO_75 := n1_; have BK776 := n2_; have HB := n3_; clear n0_ n1_ n2_ n3_; have hHeld : w66.cell? ⟨ad790.block, ad790.off + 2, none⟩ = some (.int .u8 (rd l0 2)) := hS_; refine norm_ (a' := ?_) ?_ ?_
               rotate_left
               · simp only [putAll, Act.put, sa, sb, sc]
                 rfl
               refine two_ (i := 12) (j := 14) (Ni := some 112) (Nj := some 9) #[true, true, true, true, true, true, true, true, true, true, true, true, true, false, false, false] #[true, true, true, true, true, true, true, true, true, true, true, true, false, false, true, false] rfl rfl rfl rfl (two_of HT_.out (by kernel_rfl)) (by decide) (by decide) (fun K hK => ?_) (fun K hK => ?_)
               · skip
                 refine Kd.R_append_rows_step (Kd.int .u8) (w0 := w) w.heap.size (by rfl) (.tmp 107) (.tmp 111) 35 5 (.int .u8 0) 1 rfl Try.underlying35 info5 rfl (by decide) (by omega) v794 y793 ((l0.take ((wrap64 (9 + t784)) : Int).toNat).drop 9) _ _ _ (fun k_ => some k_ ≠ (.slice Ao43 t787.length co43 : Value).ownBlock) (fun _ => False) rfl rfl ?aO ?aR (fun _ _ h => h) (fun _ h => h.elim) ?aF ?aB ?aS ?aL ?_
                 (case aR => exact xq84)
                 (case aB => exact belA)
                 (case aF => exact (fun k_ hk => Kd.fresh' (Kd.R_lt (rF HO_75)) k_ hk))
                 (case aO => exact (rF HO795))
                 (case aS => exact (below_size belA))
                 (case aL => exact xq85)
                 intro v798 w67 ho hb hg hat; rw [← Ny797.out] at ho; have HO799 := ak ho; replace HO_75 := ak (Kd.R_after (ok := (fun _ => True)) xq83 hg hat); replace BK776 := ak (blk_grown (g := gb776) (o := .cells #[.int .i64 x777000_3, .int .i64 x777001_3, .slice none 0 0] 59 (0, 0)) blkA hg (Kd.R_ne HO795.out BK776.out (by decide))); replace HB := ak hb; clear HO795; clear ho hb hg hat; obtain ⟨Ao68, co68, eo68⟩ := Kd.R_slice HO799.out; (first | subst eo68 | (injection eo68 with f1_ f2_ f3_; have f4_ := f1_.symm; have f5_ := f3_.symm; clear f1_ f2_ f3_; subst f4_; subst f5_))
                 refine hK.out _ _ (((HB.out.cell (World.block_lt_of_cell? w _ hw790_0)).trans hw790_0)) (fun hHeld => ?_)
                 clear hK K; refine norm_ (a' := ?_) ?_ ?_
                 rotate_left
                 · show Act.put _ (some 112) _ = _
                   simp only [Act.put, sa, sb, sc, i64_w, i32_w]
                   rfl
                 refine pure_ (i := 13) (N := some 113) (v := ?_) (a' := ?_) #[true, true, true, true, true, true, true, true, true, true, true, true, true, true, false, false] rfl rfl (any_of HT_.out (by kernel_rfl)) (fun _ _ _ h => h) (Or.inl ⟨by rfl, ?_⟩) ?_ ?_
                 rotate_left
                 · intro w'; go_simp
                   with_reducible rfl
                 rotate_left
                 · simp only [Act.put, sa, sb, sc, i64_w, i32_w]
                   rfl
                 exact norm_ xq17 (hJ6_7_12 (v794, .slice Ao68 y797.length co68) _ ⟨hHeld, (rF HO799), (rE (Kd.R_mono HO_75.out (fun _ hk => hk.2))), blkA, belA⟩)
               · skip
                 refine box_step ?hg (N := 9) ?hd (cs := #[.int .i64 0, .int .i64 0, .slice none 0 0]) (t := 59) ?hr ?_; (case hd => rfl); (case hg => rfl); (case hr => exact xq9)
                 intro gb800 hg w67 hbox hb; have BK800 := ak hbox; have GW800 := leA (w := w) hg; have GE800 := leA (w := w) hg; have NB776_800 := neL hg BK776; have NB800_776 := neG hg BK776; replace HO_75 := ak (Kd.R_below (rF HO_75) hb); replace HO795 := ak (Kd.R_below (rF HO795) hb); replace BK776 := bB BK776 hb; replace HB := bS hb; clear hb hbox hg; refine hK.out _ _ (((HB.out.cell (World.block_lt_of_cell? w _ hw790_0)).trans hw790_0)) (fun hHeld => ?_)
                 clear hK K; refine norm_ (a' := ?_) ?_ ?_
                 rotate_left
                 · show Act.put _ (some 9) _ = _
                   simp only [Act.put, sa, sb, sc, i64_w, i32_w]
                   rfl
                 exact norm_ xq17 (hJ6_7_14 (v794, gb800) _ ⟨hHeld, (rF HO795), (rF HO_75), blkA, blkA, GW800.out, GE800.out, NB776_800.out, NB800_776.out, belA⟩)
           · skip
             rintro ⟨v794, gb800⟩ w67 ⟨hS_, h0_, h1_, h2_, h3_, h4_, h5_, h6_, h7_, h8_⟩
             have n0_ : Aside0 (Kd.R (Kd.int .u8) 5 w67 w.heap.size (fun k_ => some k_ ≠ (.slice Ao43 t787.length co43 : Value).ownBlock) v794 y793) := ⟨h0_⟩; have n1_ : Aside0 (Kd.R (Kd.int .u8) 5 w67 w.heap.size (fun k_ => some k_ ≠ (v794 : Value).ownBlock) (.slice Ao43 t787.length co43) t787) := ⟨h1_⟩; have n2_ : Aside0 (w67.heap[gb776]? = some (.cells #[.int .i64 x777000_3, .int .i64 x777001_3, .slice none 0 0] 59 (0, 0))) := ⟨h2_⟩; have n3_ : Aside0 (w67.heap[gb800]? = some (.cells #[.int .i64 0, .int .i64 0, .slice none 0 0] 59 (0, 0))) := ⟨h3_⟩; have n4_ : Aside0 (w.heap.size ≤ gb800) := ⟨h4_⟩; have n5_ : Aside0 (w.heap.size ≤ gb800) := ⟨h5_⟩; have n6_ : Aside0 (gb776 ≠ gb800) := ⟨h6_⟩; have n7_ : Aside0 (gb800 ≠ gb776) := ⟨h7_⟩; have n8_ : Aside0 (Below w.heap.size w w67) := ⟨h8_⟩; clear HO_75; clear BK776; clear HB; clear h0_ h1_ h2_ h3_ h4_ h5_ h6_ h7_ h8_; have HO795 := n0_; have HO_75 := n1_; have BK776 := n2_; have BK800 := n3_; have GW800 := n4_; have GE800 := n5_; have NB776_800 := n6_; have NB800_776 := n7_; have HB := n8_; clear n0_ n1_ n2_ n3_ n4_ n5_ n6_ n7_ n8_; have hHeld : w67.cell? ⟨ad790.block, ad790.off + 2, none⟩ = some (.int .u8 (rd l0 2)) := hS_; refine norm_ (a' := ?_) ?_ ?_
             rotate_left
             · simp only [putAll, Act.put, sa, sb, sc]
               rfl
             refine one_ (i := 12) (N := some 112) #[true, true, true, true, true, true, true, true, true, true, true, true, true, false, true, false] rfl rfl (one_of HT_.out (by kernel_rfl)) (by decide) (fun K hK => ?_)
             refine Kd.R_append_rows_step (Kd.int .u8) (w0 := w) w.heap.size (by rfl) (.tmp 107) (.tmp 111) 35 5 (.int .u8 0) 1 rfl Try.underlying35 info5 rfl (by decide) (by omega) v794 y793 ((l0.take ((wrap64 (9 + t784)) : Int).toNat).drop 9) _ _ _ (fun k_ => some k_ ≠ (.slice Ao43 t787.length co43 : Value).ownBlock) (fun _ => False) rfl rfl ?aO ?aR (fun _ _ h => h) (fun _ h => h.elim) ?aF ?aB ?aS ?aL ?_
             (case aR => exact xq84)
             (case aB => exact belA)
             (case aF => exact (fun k_ hk => Kd.fresh' (Kd.R_lt (rF HO_75)) k_ hk))
             (case aO => exact (rF HO795))
             (case aS => exact (below_size belA))
             (case aL => exact xq85)
             intro v798 w68 ho hb hg hat; rw [← Ny797.out] at ho; have n0_ := ak (Kd.R_after (ok := (fun _ => True)) xq83 hg hat); have n1_ := ak (blk_grown (g := gb776) (o := .cells #[.int .i64 x777000_3, .int .i64 x777001_3, .slice none 0 0] 59 (0, 0)) blkA hg (Kd.R_ne HO795.out BK776.out (by decide))); have n2_ := ak (blk_grown (g := gb800) (o := .cells #[.int .i64 0, .int .i64 0, .slice none 0 0] 59 (0, 0)) blkA hg (Kd.R_ne HO795.out BK800.out (by decide))); have n3_ := ak hb; have n4_ := ak ho; clear HO_75; clear BK776; clear BK800; clear HB; clear HO795; have HO_75 := n0_; have BK776 := n1_; have BK800 := n2_; have HB := n3_; have HO799 := n4_; clear n0_ n1_ n2_ n3_ n4_; clear ho hb hg hat; obtain ⟨Ao69, co69, eo69⟩ := Kd.R_slice HO799.out; (first | subst eo69 | (injection eo69 with f1_ f2_ f3_; have f4_ := f1_.symm; have f5_ := f3_.symm; clear f1_ f2_ f3_; subst f4_; subst f5_))
             refine hK.out _ _ (((HB.out.cell (World.block_lt_of_cell? w _ hw790_0)).trans hw790_0)) (fun hHeld => ?_)
             clear hK K; refine norm_ (a' := ?_) ?_ ?_
             rotate_left
             · show Act.put _ (some 112) _ = _
               simp only [Act.put, sa, sb, sc, i64_w, i32_w]
               rfl
             refine pure_ (i := 13) (N := some 113) (v := ?_) (a' := ?_) #[true, true, true, true, true, true, true, true, true, true, true, true, true, true, true, false] rfl rfl (any_of HT_.out (by kernel_rfl)) (fun _ _ _ h => h) (Or.inl ⟨by rfl, ?_⟩) ?_ ?_
             rotate_left
             · intro w'; go_simp
               with_reducible rfl
             rotate_left
             · simp only [Act.put, sa, sb, sc, i64_w, i32_w]
               rfl
             exact norm_ xq17 (hJ6_7_12_14 (v794, .slice Ao69 y797.length co69, gb800) _ ⟨hHeld, (rF HO799), (rE (Kd.R_mono HO_75.out (fun _ hk => hk.2))), blkA, blkA, GW800.out, GE800.out, NB776_800.out, NB800_776.out, belA⟩)
         · skip
           rintro ⟨v794, v798⟩ w68 ⟨hS_, h0_, h1_, h2_, h3_⟩
           have n0_ : Aside0 (Kd.R (Kd.int .u8) 5 w68 w.heap.size (fun k_ => some k_ ≠ (.slice Ao43 t787.length co43 : Value).ownBlock) v798 y797) := ⟨h0_⟩; have n1_ : Aside0 (Kd.R (Kd.int .u8) 5 w68 w.heap.size (fun k_ => some k_ ≠ (v798 : Value).ownBlock) (.slice Ao43 t787.length co43) t787) := ⟨h1_⟩; have n2_ : Aside0 (w68.heap[gb776]? = some (.cells #[.int .i64 x777000_3, .int .i64 x777001_3, .slice none 0 0] 59 (0, 0))) := ⟨h2_⟩; have n3_ : Aside0 (Below w.heap.size w w68) := ⟨h3_⟩; clear HO_75; clear BK776; clear HB; clear h0_ h1_ h2_ h3_; have HO799 := n0_; have HO_75 := n1_; have BK776 := n2_; have HB := n3_; clear n0_ n1_ n2_ n3_; have hHeld : w68.cell? ⟨ad790.block, ad790.off + 2, none⟩ = some (.int .u8 (rd l0 2)) := hS_; obtain ⟨Ao69, co69, eo69⟩ := Kd.R_slice HO799.out; (first | subst eo69 | (injection eo69 with f1_ f2_ f3_; have f4_ := f1_.symm; have f5_ := f3_.symm; clear f1_ f2_ f3_; subst f4_; subst f5_))
           refine norm_ (a' := ?_) ?_ ?_
           rotate_left
           · simp only [putAll, Act.put, sa, sb, sc]
             rfl
           refine one_ (i := 14) (N := some 9) #[true, true, true, true, true, true, true, true, true, true, true, true, true, true, true, false] rfl rfl (one_of HT_.out (by kernel_rfl)) (by decide) (fun K hK => ?_)
           refine box_step ?hg (N := 9) ?hd (cs := #[.int .i64 0, .int .i64 0, .slice none 0 0]) (t := 59) ?hr ?_; (case hd => rfl); (case hg => rfl); (case hr => exact xq9)
           intro gb800 hg w70 hbox hb; have BK800 := ak hbox; have GW800 := leA (w := w) hg; have GE800 := leA (w := w) hg; have NB776_800 := neL hg BK776; have NB800_776 := neG hg BK776; replace HO_75 := ak (Kd.R_below (rF HO_75) hb); replace HO799 := ak (Kd.R_below (rF HO799) hb); replace BK776 := bB BK776 hb; replace HB := bS hb; clear hb hbox hg; refine hK.out _ _ (((HB.out.cell (World.block_lt_of_cell? w _ hw790_0)).trans hw790_0)) (fun hHeld => ?_)
           clear hK K; refine norm_ (a' := ?_) ?_ ?_
           rotate_left
           · show Act.put _ (some 9) _ = _
             simp only [Act.put, sa, sb, sc, i64_w, i32_w]
             rfl
           exact norm_ xq17 (hJ6_7_12_14 (v794, .slice Ao69 y797.length co69, gb800) _ ⟨hHeld, (rF HO799), (rF HO_75), blkA, blkA, GW800.out, GE800.out, NB776_800.out, NB800_776.out, belA⟩)
       rintro ⟨v794, v798, gb800⟩ w69 ⟨hS_, h0_, h1_, h2_, h3_, h4_, h5_, h6_, h7_, h8_⟩
       have n0_ : Aside0 (Kd.R (Kd.int .u8) 5 w69 w.heap.size (fun k_ => some k_ ≠ (.slice Ao43 t787.length co43 : Value).ownBlock) v798 y797) := ⟨h0_⟩; have n1_ : Aside0 (Kd.R (Kd.int .u8) 5 w69 w.heap.size (fun k_ => some k_ ≠ (v798 : Value).ownBlock) (.slice Ao43 t787.length co43) t787) := ⟨h1_⟩; have n2_ : Aside0 (w69.heap[gb776]? = some (.cells #[.int .i64 x777000_3, .int .i64 x777001_3, .slice none 0 0] 59 (0, 0))) := ⟨h2_⟩; have n3_ : Aside0 (w69.heap[gb800]? = some (.cells #[.int .i64 0, .int .i64 0, .slice none 0 0] 59 (0, 0))) := ⟨h3_⟩; have n4_ : Aside0 (w.heap.size ≤ gb800) := ⟨h4_⟩; have n5_ : Aside0 (w.heap.size ≤ gb800) := ⟨h5_⟩; have n6_ : Aside0 (gb776 ≠ gb800) := ⟨h6_⟩; have n7_ : Aside0 (gb800 ≠ gb776) := ⟨h7_⟩; have n8_ : Aside0 (Below w.heap.size w w69) := ⟨h8_⟩; clear HO_75; clear BK776; clear HB; clear h0_ h1_ h2_ h3_ h4_ h5_ h6_ h7_ h8_; have HO799 := n0_; have HO_75 := n1_; have BK776 := n2_; have BK800 := n3_; have GW800 := n4_; have GE800 := n5_; have NB776_800 := n6_; have NB800_776 := n7_; have HB := n8_; clear n0_ n1_ n2_ n3_ n4_ n5_ n6_ n7_ n8_; have hHeld : w69.cell? ⟨ad790.block, ad790.off + 2, none⟩ = some (.int .u8 (rd l0 2)) := hS_; obtain ⟨Ao70, co70, eo70⟩ := Kd.R_slice HO799.out; (first | subst eo70 | (injection eo70 with f1_ f2_ f3_; have f4_ := f1_.symm; have f5_ := f3_.symm; clear f1_ f2_ f3_; subst f4_; subst f5_))
       refine norm_ (a' := ?_) ?_ ?_
       rotate_left
       · simp only [putAll, Act.put, sa, sb, sc]
         rfl
       refine one_ (i := 15) (N := none) #[true, true, true, true, true, true, true, true, true, true, true, true, true, true, true, true] rfl rfl (one_of HT_.out (by kernel_rfl)) (by decide) (fun K hK => ?_)
       have hs71 : w69.cell? ⟨gb800, 0, none⟩ = some (.int .i64 0) := (blk_cell BK800.out 0).trans rfl; have hfs71 := blk_frozen BK800.out 0; have hns71_0 := NB776_800.out; have hms71_0 := NB800_776.out; have hs72 : w69.cell? ⟨gb800, 1, none⟩ = some (.int .i64 0) := (blk_cell BK800.out 1).trans rfl; have hfs72 := blk_frozen BK800.out 1; have hns72_0 := NB776_800.out; have hms72_0 := NB800_776.out; have hs73 : w69.cell? ⟨gb800, 2, none⟩ = some (.slice none 0 0) := (blk_cell BK800.out 2).trans rfl; have hfs73 := blk_frozen BK800.out 2; have hns73_0 := NB776_800.out; have hms73_0 := NB800_776.out; refine skip_ (w1 := ?_) (by rfl) rfl ?_ ?_
       rotate_left
       · go_simp
         rfl
       refine hK.out _ _ (((cell_far (p := ⟨gb800, _, none⟩) xq53 _).trans (((cell_far (p := ⟨gb800, _, none⟩) xq53 _).trans (((cell_far (p := ⟨gb800, _, none⟩) xq53 _).trans (hHeld))))))) (fun hHeld => ?_)
       clear hK K; refine done_ (done_of HT_.out (by kernel_rfl)) ?_
       have hnb74 := NB800_776.out; have hnc74 := NB776_800.out; obtain ⟨hcz75_0, hcz75_1, hcz75_2, hfz75_0, hfz75_1, hfz75_2⟩ := cel3 BK800; obtain ⟨hcz76_0, hcz76_1, hcz76_2, hfz76_0, hfz76_1, hfz76_2⟩ := cel3 BK776; try go_wp2
       refine bodyPost_ret (results_ctt rfl _ _ gb776 59 #[.int .i64 (wrap64 (rd l0 2)), .int .i64 t792, .slice Ao70 y797.length co70] (0, 0) _ rfl (by (with_reducible repeat (first | refine blk_drewN ?_ _ | refine blk_drew ?_ | refine blk_alloc ?_ _)); refine blk_put (cs := #[.int .i64 (wrap64 (rd l0 2)), .int .i64 t792, .slice none 0 0]) ?_ 2 _ rfl; (with_reducible repeat (first | refine blk_drewN ?_ _ | refine blk_drew ?_ | refine blk_alloc ?_ _)); refine blk_put (cs := #[.int .i64 (wrap64 (rd l0 2)), .int .i64 x777001_3, .slice none 0 0]) ?_ 1 _ rfl; (with_reducible repeat (first | refine blk_drewN ?_ _ | refine blk_drew ?_ | refine blk_alloc ?_ _)); refine blk_put (cs := #[.int .i64 x777000_3, .int .i64 x777001_3, .slice none 0 0]) ?_ 0 _ rfl; (with_reducible repeat (first | refine blk_drewN ?_ _ | refine blk_drew ?_ | refine blk_alloc ?_ _)); refine blk_far ?_ NB776_800.out _; (with_reducible repeat (first | refine blk_drewN ?_ _ | refine blk_drew ?_ | refine blk_alloc ?_ _)); refine blk_far ?_ NB776_800.out _; (with_reducible repeat (first | refine blk_drewN ?_ _ | refine blk_drew ?_ | refine blk_alloc ?_ _)); refine blk_far ?_ NB776_800.out _; (with_reducible repeat (first | refine blk_drewN ?_ _ | refine blk_drew ?_ | refine blk_alloc ?_ _)); exact BK776.out) Try.underlying59 rfl (by kernel_rfl)) rfl ?_
       exact ⟨_, xq4, by (with_reducible repeat (first | apply Kd.R_alloc | apply Kd.R_drewN | apply Kd.R_drew)); exact Kd.R_mono (Kd.R_far (p := ⟨gb776, 2, none⟩) (Kd.R_far (p := ⟨gb776, 1, none⟩) (Kd.R_far (p := ⟨gb776, 0, none⟩) (Kd.R_far (p := ⟨gb800, 2, none⟩) (Kd.R_far (p := ⟨gb800, 1, none⟩) (Kd.R_far (p := ⟨gb800, 0, none⟩) (Kd.R_types (Kd.R_types HO799.out BK800.out (by decide)) BK776.out (by decide)) (fun _ hk => hk.1.2) (.int .i64 (wrap64 (rd l0 2)))) (fun _ hk => hk.1.2) (.int .i64 t792)) (fun _ hk => hk.1.2) (.slice Ao70 y797.length co70)) (fun _ hk => hk.2) (.int .i64 (wrap64 (rd l0 2)))) (fun _ hk => hk.2) (.int .i64 t792)) (fun _ hk => hk.2) (.slice Ao70 y797.length co70)) (fun _ hk => trivial), belA⟩

end Go.Proofs.Ytdefnccngnilmaa.PFnResync

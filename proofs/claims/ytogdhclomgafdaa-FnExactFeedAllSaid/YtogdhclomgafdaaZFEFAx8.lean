-- Written by a program of this session (the print of the kit with contracts of this session's own added)
import Derived.Test.YtogdhclomgafdaaZFEFAx6
import Derived.Test.YtogdhclomgafdaaZFEFAx7
namespace Go.Proofs.Ytogdhclomgafdaa.PFnExactFeedAll
open Go.RowKit Go.Proofs.YtogdhclomgafdaaW.PrintWords Go.Proofs.YtogdhclomgafdaaW.PrintLast Go.Proofs.YtogdhclomgafdaaW.PrintMore Go.Proofs.YtogdhclomgafdaaW.PrintPack
set_option linter.unusedVariables false
set_option linter.unusedSimpArgs false

mutual
def impl_decodeFrame.j0 : Nat → List Int → Int → Bool → Option (Int × Int × List Int × Int × Int)
 | 0, _, _, _ => none
 | k + 1, x0, x5, x12 => if x12 = true then (impl_decodeFrame.j3 k x0 x5 x12) else (if x5 > 1 then (if 1 < (x0.length : Int) then (impl_decodeFrame.j1 k x0 x5 ((rd x0 1) != 77)) else (none)) else (impl_decodeFrame.j1 k x0 x5 false))
def impl_decodeFrame.j3 : Nat → List Int → Int → Bool → Option (Int × Int × List Int × Int × Int)
 | 0, _, _, _ => none
 | k + 1, x0, x5, x12 => if x12 = true then (some (0, 0, ([] : List Int), 0, 2)) else (if x5 < 9 then (some (0, 0, ([] : List Int), 0, 1)) else (if 7 ≤ 9 then (if 9 ≤ (x0.length : Int) then ((impl_numberIn.f k ((x0.take 9).drop 7)).bind fun t202 => (if t202 > 5000 then (some (0, 0, ([] : List Int), 0, 2)) else (if x5 < (wrap64 (9 + t202)) then (some (0, 0, ([] : List Int), 0, 1)) else (if 2 ≤ (wrap64 (9 + t202)) then (if (wrap64 (9 + t202)) ≤ (x0.length : Int) then ((impl_checkSum.f k ((x0.take ((wrap64 (9 + t202)) : Int).toNat).drop 2)).bind fun t204 => ((impl_bigEndian.f k t204 4).bind fun t205 => (impl_decodeFrame.l0 k x0 x5 t202 t205 (t205.length : Int) 0))) else (none)) else (none))))) else (none)) else (none)))
def impl_decodeFrame.l0 : Nat → List Int → Int → Int → List Int → Int → Int → Option (Int × Int × List Int × Int × Int)
 | 0, _, _, _, _, _, _ => none
 | k + 1, x0, x5, x6, x75, x76, x77 => if x77 < x76 then (if 0 ≤ x77 then (if x77 < (x75.length : Int) then (if (wrap64 ((wrap64 (9 + x6)) + x77)) = x5 then (some (0, 0, ([] : List Int), 0, 1)) else (if 0 ≤ (wrap64 ((wrap64 (9 + x6)) + x77)) then (if (wrap64 ((wrap64 (9 + x6)) + x77)) < (x0.length : Int) then (if (rd x0 (wrap64 ((wrap64 (9 + x6)) + x77))) = (rd x75 x77) then (impl_decodeFrame.l0 k x0 x5 x6 x75 x76 (wrap64 (x77 + 1))) else (some (0, 0, ([] : List Int), 0, 2))) else (none)) else (none))) else (none)) else (none)) else (if 2 < (x0.length : Int) then (if 3 ≤ 7 then (if 7 ≤ (x0.length : Int) then ((impl_numberIn.f k ((x0.take 7).drop 3)).bind fun t210 => ((some (([] : List Int) : List Int)).bind fun y211 => (if 9 ≤ (wrap64 (9 + x6)) then (if (wrap64 (9 + x6)) ≤ (x0.length : Int) then (if y211.length + ((x0.take ((wrap64 (9 + x6)) : Int).toNat).drop 9).length < 140737488355328 then (some (wrap64 (rd x0 2), t210, (y211 ++ ((x0.take ((wrap64 (9 + x6)) : Int).toNat).drop 9)), wrap64 (13 + x6), 0)) else (none)) else (none)) else (none)))) else (none)) else (none)) else (none))
def impl_decodeFrame.j1 : Nat → List Int → Int → Bool → Option (Int × Int × List Int × Int × Int)
 | 0, _, _, _ => none
 | k + 1, x0, x5, x12 => if x12 = true then (impl_decodeFrame.j3 k x0 x5 x12) else (if x5 > 2 then (if 2 < (x0.length : Int) then (impl_decodeFrame.j2 k x0 x5 (decide ((rd x0 2) > 99))) else (none)) else (impl_decodeFrame.j2 k x0 x5 false))
def impl_decodeFrame.j2 : Nat → List Int → Int → Bool → Option (Int × Int × List Int × Int × Int)
 | 0, _, _, _ => none
 | k + 1, x0, x5, x12 => if x12 = true then (impl_decodeFrame.j3 k x0 x5 x12) else (if x5 > 3 then (if 3 < (x0.length : Int) then (if (rd x0 3) > 127 then (impl_decodeFrame.j3 k x0 x5 (decide ((rd x0 3) > 127))) else (if x5 > 7 then (if 7 < (x0.length : Int) then (impl_decodeFrame.j3 k x0 x5 (decide ((wrap64 (rd x0 7)) > 19))) else (none)) else (impl_decodeFrame.j3 k x0 x5 false))) else (none)) else (if x5 > 7 then (if 7 < (x0.length : Int) then (impl_decodeFrame.j3 k x0 x5 (decide ((wrap64 (rd x0 7)) > 19))) else (none)) else (impl_decodeFrame.j3 k x0 x5 false)))
end
def impl_decodeFrame.f (k : Nat) (l0 : List Int) : Option (Int × Int × List Int × Int × Int) := if (l0.length : Int) > 0 then (if 0 < (l0.length : Int) then (impl_decodeFrame.j0 k l0 (l0.length : Int) ((rd l0 0) != 199)) else (none)) else (impl_decodeFrame.j0 k l0 (l0.length : Int) false)
theorem impl_decodeFrame.mono_l : ∀ k, (∀ y0 y1 y2, LeO (impl_decodeFrame.j0 k y0 y1 y2) (impl_decodeFrame.j0 (k + 1) y0 y1 y2)) ∧ (∀ y0 y1 y2, LeO (impl_decodeFrame.j3 k y0 y1 y2) (impl_decodeFrame.j3 (k + 1) y0 y1 y2)) ∧ (∀ y0 y1 y2 y3 y4 y5, LeO (impl_decodeFrame.l0 k y0 y1 y2 y3 y4 y5) (impl_decodeFrame.l0 (k + 1) y0 y1 y2 y3 y4 y5)) ∧ (∀ y0 y1 y2, LeO (impl_decodeFrame.j1 k y0 y1 y2) (impl_decodeFrame.j1 (k + 1) y0 y1 y2)) ∧ (∀ y0 y1 y2, LeO (impl_decodeFrame.j2 k y0 y1 y2) (impl_decodeFrame.j2 (k + 1) y0 y1 y2))
 | 0 => ⟨fun _ _ _ r h => by simp [impl_decodeFrame.j0] at h, fun _ _ _ r h => by simp [impl_decodeFrame.j3] at h, fun _ _ _ _ _ _ r h => by simp [impl_decodeFrame.l0] at h, fun _ _ _ r h => by simp [impl_decodeFrame.j1] at h, fun _ _ _ r h => by simp [impl_decodeFrame.j2] at h⟩
 | k + 1 => by
  obtain ⟨ih0, ih1, ih2, ih3, ih4⟩ := impl_decodeFrame.mono_l k; refine ⟨?_, ?_, ?_, ?_, ?_⟩
  · intro y0 y1 y2; unfold impl_decodeFrame.j0; exact xq17
  · intro y0 y1 y2; unfold impl_decodeFrame.j3; exact xq17
  · intro y0 y1 y2 y3 y4 y5; unfold impl_decodeFrame.l0; exact xq17
  · intro y0 y1 y2; unfold impl_decodeFrame.j1; exact xq17
  · intro y0 y1 y2; unfold impl_decodeFrame.j2; exact xq17
theorem impl_decodeFrame.mono : ∀ a0 k, LeO (impl_decodeFrame.f k a0) (impl_decodeFrame.f (k + 1) a0) := by
 intro a0 k; obtain ⟨ih0, ih1, ih2, ih3, ih4⟩ := impl_decodeFrame.mono_l k
 unfold impl_decodeFrame.f
 exact xq17
def impl_decodeFrame.T23 : Bool × List (List Nat × List Nat) := (true, [([], []), ([0], [0]), ([1], [1]), ([2], [2]), ([], []), ([4], [4]), ([5], [5]), ([], []), ([], []), ([], []), ([9], [9]), ([8, 10], [8, 10]), ([7, 11, 6], [7, 11]), ([3, 6, 12], [3, 6, 12]), ([], []), ([14, 13, 12, 0, 1, 2, 3, 4, 5, 6, 7, 8, 9, 10, 11, 12, 13, 14], [13, 14])])
def impl_decodeFrame.B23 : List Nat := [0, 1, 3, 7, 0, 16, 48, 0, 0, 0, 512, 1792, 4080, 8191, 0, 32767]
theorem impl_decodeFrame.tab23 : rtab .any (opsOf Try.f110 23) = impl_decodeFrame.T23 := by kernel_rfl
theorem impl_decodeFrame.bits23 : waitsOk impl_decodeFrame.T23.2 impl_decodeFrame.B23 = true := by kernel_rfl
set_option maxHeartbeats 8000000 in
set_option maxRecDepth 100000 in
theorem impl_decodeFrame.calls (k : Nat) (A0 : Option Addr) (c0 : Nat) (l0 : List Int) (r1 : Int) (r2 : Int) (r3 : List Int) (r4 : Int) (r5 : Int) (w : World) (hr0 : Kd.C (Kd.int .u8) w A0 l0.length l0) (hc0 : l0.length ≤ c0) (h : impl_decodeFrame.f k l0 = some (r1, r2, r3, r4, r5)) :
 Calls Try.prog 110 #[.slice A0 l0.length c0] w fun e w' => ∃ v2_ : Value, e = .returned (.tuple #[.agg #[.int .i64 r1, .int .i64 r2, v2_], .int .i64 r4, .int .i64 r5]) ∧ Kd.R (Kd.int .u8) 5 w' w.heap.size (fun _ => True) v2_ r3 ∧ Below w.heap.size w w' := by
 have hu52 := Try.underlying52; have HR0 := ak hr0; have HC0 := ak hc0; clear hr0 hc0; have HB := ak (Below.refl w.heap.size w); have H : (if (l0.length : Int) > 0 then (if 0 < (l0.length : Int) then (impl_decodeFrame.j0 k l0 (l0.length : Int) ((rd l0 0) != 199)) else (none)) else (impl_decodeFrame.j0 k l0 (l0.length : Int) false)) = some (r1, r2, r3, r4, r5) := h; clear h; have HC2 := ak H; clear H; go_enter Try.func110, Try.ntmps110
 go_upto_region 2 with (first | ((with_reducible refine gate_dst (N := 2) rfl ?_); refine boxA 2 #[.int .i64 0, .int .i64 0, .slice none 0 0] 52 ?_; intro gb194 hg w3 hbox hb; have BK194 := ak hbox; have GW194 := leA (w := w) hg; have GE194 := leA (w := w) hg; replace HB := bS hb; clear hb hbox hg))
 (try simp only [Act.put, sa, sb, sc])
 go_cut [12] (fun v12 wc => ∃ (kq : Nat) (x12_1 : Bool), v12 = .bool x12_1 ∧ Aside0 (impl_decodeFrame.j0 kq l0 (l0.length : Int) x12_1 = some (r1, r2, r3, r4, r5)) ∧ Aside0 (kq ≤ k) ∧ Aside0 (wc.heap[gb194]? = some (.cells #[.int .i64 0, .int .i64 0, (.slice none 0 0)] 52 (0, 0))) ∧ Aside0 (Below w.heap.size w wc))
 case first =>
  have H := HC2.out; clear HC2
  by_cases c4 : (l0.length : Int) > 0; rotate_left
  · rw [if_neg c4] at H; have c4b0 : decide (0 < (l0.length : Int)) = false := decide_eq_false c4; have c4b1 : decide (0 < l0.length) = false := decide_eq_false (by omega); clear c4; (first | rw [c4b0] | (simp only [i64_w, i32_w]; rw [c4b0]) | skip)
    have H' := ak H; clear H; go_wp2
    go_meet
    case rel => exact ⟨_, (false), eqA, H', ⟨xq16⟩, ⟨blkA⟩, ⟨belA⟩⟩
  rw [if_pos c4] at H; have c4b0 : decide (0 < (l0.length : Int)) = true := decide_eq_true c4; have c4b1 : decide (0 < l0.length) = true := decide_eq_true (by omega); clear c4; (first | rw [c4b0] | (simp only [i64_w, i32_w]; rw [c4b0]) | skip)
  by_cases c5 : 0 < (l0.length : Int); rotate_left
  · rw [if_neg c5] at H; exact absurd H (by simp)
  rw [if_pos c5] at H; have c5b0 := decide_eq_true c5; have c5b1 : decide (0 < l0.length) = true := decide_eq_true (by omega); clear c5; have H' := ak H; clear H; have p195 : 0 ≤ (0 : Int) := (by omega); have q195 : 0 < (l0.length : Int) := odA; obtain ⟨ad195, e195, hx195_0⟩ := Kd.at_int HR0.out 0 p195 q195
  cases e195
  have qi195 : (0 < l0.length) = True := eq_true (by omega); (try rw [show ((0 : Int)).toNat = 0 from rfl] at hx195_0)
  (try rw [Addr.add_zero'] at hx195_0)
  try replace hx195_0 := cB HB hx195_0
  replace p195 := eq_true p195; replace q195 := eq_true q195; go_wp2
  go_meet
  case rel => exact ⟨_, (((rd l0 0) != 199)), eqA, H', ⟨xq16⟩, ⟨blkA⟩, ⟨belA⟩⟩
 case rest =>
  clear HC2; obtain ⟨kq, x12_1, rfl, HA, HJ1, BK194, HB⟩ := hcut
  cases kq with
  | zero => exact absurd HA.out (by simp [impl_decodeFrame.j0])
  | succ kj1 =>
   have H := HA.out; clear HA; simp only [impl_decodeFrame.j0] at H; have HC6 := ak H; clear H; go_upto_if 12 with (fail)
   go_cut [12] (fun v12 wc => ∃ (kq : Nat) (x12_5 : Bool), v12 = .bool x12_5 ∧ Aside0 (impl_decodeFrame.j3 kq l0 (l0.length : Int) x12_5 = some (r1, r2, r3, r4, r5)) ∧ Aside0 (kq ≤ kj1) ∧ Aside0 (wc.heap[gb194]? = some (.cells #[.int .i64 0, .int .i64 0, (.slice none 0 0)] 52 (0, 0))) ∧ Aside0 (Below w.heap.size w wc))
   case first =>
    have H := HC6.out; clear HC6
    by_cases c7 : x12_1 = true
    · subst c7; have H1 : (impl_decodeFrame.j3 kj1 l0 (l0.length : Int) true) = some (r1, r2, r3, r4, r5) := by rw [if_pos rfl] at H; exact H
      clear H; have H := H1; clear H1; have H' := ak H; clear H; go_wp2
      go_meet
      case rel => exact ⟨_, (true), eqA, H', ⟨xq43⟩, ⟨blkA⟩, ⟨belA⟩⟩
    replace c7 := Bool.eq_false_iff.mpr c7; subst c7; have H1 : (if (l0.length : Int) > 1 then (if 1 < (l0.length : Int) then (impl_decodeFrame.j1 kj1 l0 (l0.length : Int) ((rd l0 1) != 77)) else (none)) else (impl_decodeFrame.j1 kj1 l0 (l0.length : Int) false)) = some (r1, r2, r3, r4, r5) := by rw [if_neg (show ¬ (false = true) by decide)] at H; exact H
    clear H; have H := H1; clear H1; have HC8 := ak H; clear H; go_upto_region 3 with (fail)
    go_cut [12] (fun v12 wc => ∃ (kq : Nat) (x12_7 : Bool), v12 = .bool x12_7 ∧ Aside0 (impl_decodeFrame.j1 kq l0 (l0.length : Int) x12_7 = some (r1, r2, r3, r4, r5)) ∧ Aside0 (kq ≤ kj1) ∧ Aside0 (wc.heap[gb194]? = some (.cells #[.int .i64 0, .int .i64 0, (.slice none 0 0)] 52 (0, 0))) ∧ Aside0 (Below w.heap.size w wc))
    case first =>
     have H := HC8.out; clear HC8
     by_cases c9 : (l0.length : Int) > 1; rotate_left
     · rw [if_neg c9] at H; have c9b0 : decide (1 < (l0.length : Int)) = false := decide_eq_false c9; have c9b1 : decide (1 < l0.length) = false := decide_eq_false (by omega); clear c9; (first | rw [c9b0] | (simp only [i64_w, i32_w]; rw [c9b0]) | skip)
       have H' := ak H; clear H; go_wp2
       go_meet
       case rel => exact ⟨_, (false), eqA, H', ⟨xq43⟩, ⟨blkA⟩, ⟨belA⟩⟩
     rw [if_pos c9] at H; have c9b0 : decide (1 < (l0.length : Int)) = true := decide_eq_true c9; have c9b1 : decide (1 < l0.length) = true := decide_eq_true (by omega); clear c9; (first | rw [c9b0] | (simp only [i64_w, i32_w]; rw [c9b0]) | skip)
     by_cases c10 : 1 < (l0.length : Int); rotate_left
     · rw [if_neg c10] at H; exact absurd H (by simp)
     rw [if_pos c10] at H; have c10b0 := decide_eq_true c10; have c10b1 : decide (1 < l0.length) = true := decide_eq_true (by omega); clear c10; have H' := ak H; clear H; have p196 : 0 ≤ (1 : Int) := (by omega); have q196 : 1 < (l0.length : Int) := odA; obtain ⟨ad196, e196, hx196_0⟩ := Kd.at_int HR0.out 1 p196 q196
     cases e196
     (try simp only [show (1 : Int).toNat = 1 from rfl, Nat.reduceMul, Nat.reduceEqDiff, Go.Addr.add, ↓reduceIte] at hx196_0)
     have qi196 : (1 < l0.length) = True := eq_true (by omega); (try rw [show ((1 : Int)).toNat = 1 from rfl] at hx196_0)
     try replace hx196_0 := cB HB hx196_0
     replace p196 := eq_true p196; replace q196 := eq_true q196; go_wp2
     go_meet
     case rel => exact ⟨_, (((rd l0 1) != 77)), eqA, H', ⟨xq43⟩, ⟨blkA⟩, ⟨belA⟩⟩
    case rest =>
     clear HC8; obtain ⟨kq, x12_7, rfl, HA, HJ7, BK194, HB⟩ := hcut
     cases kq with
     | zero => exact absurd HA.out (by simp [impl_decodeFrame.j1])
     | succ kj7 =>
      have H := HA.out; clear HA; simp only [impl_decodeFrame.j1] at H
      by_cases c11 : x12_7 = true
      · subst c11; have H1 : (impl_decodeFrame.j3 kj7 l0 (l0.length : Int) true) = some (r1, r2, r3, r4, r5) := by rw [if_pos rfl] at H; exact H
        clear H; have H := H1; clear H1; have H' := ak H; clear H; go_wp2
        go_meet
        case rel => exact ⟨_, (true), eqA, H', ⟨xq44⟩, ⟨blkA⟩, ⟨belA⟩⟩
      replace c11 := Bool.eq_false_iff.mpr c11; subst c11; have H1 : (if (l0.length : Int) > 2 then (if 2 < (l0.length : Int) then (impl_decodeFrame.j2 kj7 l0 (l0.length : Int) (decide ((rd l0 2) > 99))) else (none)) else (impl_decodeFrame.j2 kj7 l0 (l0.length : Int) false)) = some (r1, r2, r3, r4, r5) := by rw [if_neg (show ¬ (false = true) by decide)] at H; exact H
      clear H; have H := H1; clear H1; have HC12 := ak H; clear H; go_upto_region 4 with (fail)
      go_cut [12] (fun v12 wc => ∃ (kq : Nat) (x12_11 : Bool), v12 = .bool x12_11 ∧ Aside0 (impl_decodeFrame.j2 kq l0 (l0.length : Int) x12_11 = some (r1, r2, r3, r4, r5)) ∧ Aside0 (kq ≤ kj7) ∧ Aside0 (wc.heap[gb194]? = some (.cells #[.int .i64 0, .int .i64 0, (.slice none 0 0)] 52 (0, 0))) ∧ Aside0 (Below w.heap.size w wc))
      case first =>
       have H := HC12.out; clear HC12
       by_cases c13 : (l0.length : Int) > 2; rotate_left
       · rw [if_neg c13] at H; have c13b0 : decide (2 < (l0.length : Int)) = false := decide_eq_false c13; have c13b1 : decide (2 < l0.length) = false := decide_eq_false (by omega); clear c13; (first | rw [c13b0] | (simp only [i64_w, i32_w]; rw [c13b0]) | skip)
         have H' := ak H; clear H; go_wp2
         go_meet
         case rel => exact ⟨_, (false), eqA, H', ⟨xq44⟩, ⟨blkA⟩, ⟨belA⟩⟩
       rw [if_pos c13] at H; have c13b0 : decide (2 < (l0.length : Int)) = true := decide_eq_true c13; have c13b1 : decide (2 < l0.length) = true := decide_eq_true (by omega); clear c13; (first | rw [c13b0] | (simp only [i64_w, i32_w]; rw [c13b0]) | skip)
       by_cases c14 : 2 < (l0.length : Int); rotate_left
       · rw [if_neg c14] at H; exact absurd H (by simp)
       rw [if_pos c14] at H; have c14b0 := decide_eq_true c14; have c14b1 : decide (2 < l0.length) = true := decide_eq_true (by omega); clear c14; have H' := ak H; clear H; have p197 : 0 ≤ (2 : Int) := (by omega); have q197 : 2 < (l0.length : Int) := odA; obtain ⟨ad197, e197, hx197_0⟩ := Kd.at_int HR0.out 2 p197 q197
       cases e197
       (try simp only [show (2 : Int).toNat = 2 from rfl, Nat.reduceMul, Nat.reduceEqDiff, Go.Addr.add, ↓reduceIte] at hx197_0)
       have qi197 : (2 < l0.length) = True := eq_true (by omega); (try rw [show ((2 : Int)).toNat = 2 from rfl] at hx197_0)
       try replace hx197_0 := cB HB hx197_0
       replace p197 := eq_true p197; replace q197 := eq_true q197; go_wp2
       go_meet
       case rel => exact ⟨_, (decide ((rd l0 2) > 99)), eqA, H', ⟨xq44⟩, ⟨blkA⟩, ⟨belA⟩⟩
      case rest =>
       clear HC12; obtain ⟨kq, x12_11, rfl, HA, HJ11, BK194, HB⟩ := hcut
       cases kq with
       | zero => exact absurd HA.out (by simp [impl_decodeFrame.j2])
       | succ kj11 =>
        have H := HA.out; clear HA; simp only [impl_decodeFrame.j2] at H
        by_cases c15 : x12_11 = true
        · subst c15; have H1 : (impl_decodeFrame.j3 kj11 l0 (l0.length : Int) true) = some (r1, r2, r3, r4, r5) := by rw [if_pos rfl] at H; exact H
          clear H; have H := H1; clear H1; have H' := ak H; clear H; go_wp2
          go_meet
          case rel => exact ⟨_, (true), eqA, H', ⟨xq18⟩, ⟨blkA⟩, ⟨belA⟩⟩
        replace c15 := Bool.eq_false_iff.mpr c15; subst c15; have H1 : (if (l0.length : Int) > 3 then (if 3 < (l0.length : Int) then (if (rd l0 3) > 127 then (impl_decodeFrame.j3 kj11 l0 (l0.length : Int) (decide ((rd l0 3) > 127))) else (if (l0.length : Int) > 7 then (if 7 < (l0.length : Int) then (impl_decodeFrame.j3 kj11 l0 (l0.length : Int) (decide ((wrap64 (rd l0 7)) > 19))) else (none)) else (impl_decodeFrame.j3 kj11 l0 (l0.length : Int) false))) else (none)) else (if (l0.length : Int) > 7 then (if 7 < (l0.length : Int) then (impl_decodeFrame.j3 kj11 l0 (l0.length : Int) (decide ((wrap64 (rd l0 7)) > 19))) else (none)) else (impl_decodeFrame.j3 kj11 l0 (l0.length : Int) false))) = some (r1, r2, r3, r4, r5) := by rw [if_neg (show ¬ (false = true) by decide)] at H; exact H
        clear H; have H := H1; clear H1
        by_cases c16 : (l0.length : Int) > 3; rotate_left
        · rw [if_neg c16] at H; have c16b0 : decide (3 < (l0.length : Int)) = false := decide_eq_false c16; have c16b1 : decide (3 < l0.length) = false := decide_eq_false (by omega); clear c16
          by_cases c21 : (l0.length : Int) > 7; rotate_left
          · rw [if_neg c21] at H; have c21b0 : decide (7 < (l0.length : Int)) = false := decide_eq_false c21; have c21b1 : decide (7 < l0.length) = false := decide_eq_false (by omega); clear c21; have H' := ak H; clear H; go_wp2
            go_meet
            case rel => exact ⟨_, (false), eqA, H', ⟨xq18⟩, ⟨blkA⟩, ⟨belA⟩⟩
          rw [if_pos c21] at H; have c21b0 : decide (7 < (l0.length : Int)) = true := decide_eq_true c21; have c21b1 : decide (7 < l0.length) = true := decide_eq_true (by omega); clear c21
          by_cases c22 : 7 < (l0.length : Int); rotate_left
          · rw [if_neg c22] at H; exact absurd H (by simp)
          rw [if_pos c22] at H; have c22b0 := decide_eq_true c22; have c22b1 : decide (7 < l0.length) = true := decide_eq_true (by omega); clear c22; have H' := ak H; clear H; have p200 : 0 ≤ (7 : Int) := (by omega); have q200 : 7 < (l0.length : Int) := odA; obtain ⟨ad200, e200, hx200_0⟩ := Kd.at_int HR0.out 7 p200 q200
          cases e200
          (try simp only [show (7 : Int).toNat = 7 from rfl, Nat.reduceMul, Nat.reduceEqDiff, Go.Addr.add, ↓reduceIte] at hx200_0)
          have qi200 : (7 < l0.length) = True := eq_true (by omega); (try rw [show ((7 : Int)).toNat = 7 from rfl] at hx200_0)
          try replace hx200_0 := cB HB hx200_0
          replace p200 := eq_true p200; replace q200 := eq_true q200; go_wp2
          go_meet
          case rel => exact ⟨_, (decide ((wrap64 (rd l0 7)) > 19)), eqA, H', ⟨xq18⟩, ⟨blkA⟩, ⟨belA⟩⟩
        rw [if_pos c16] at H; have c16b0 : decide (3 < (l0.length : Int)) = true := decide_eq_true c16; have c16b1 : decide (3 < l0.length) = true := decide_eq_true (by omega); clear c16
        by_cases c17 : 3 < (l0.length : Int); rotate_left
        · rw [if_neg c17] at H; exact absurd H (by simp)
        rw [if_pos c17] at H; have c17b0 := decide_eq_true c17; have c17b1 : decide (3 < l0.length) = true := decide_eq_true (by omega); clear c17
        by_cases c18 : (rd l0 3) > 127
        · rw [if_pos c18] at H; have c18b0 : decide (127 < (rd l0 3)) = true := decide_eq_true c18; clear c18; have H' := ak H; clear H; have p198 : 0 ≤ (3 : Int) := (by omega); have q198 : 3 < (l0.length : Int) := odA; obtain ⟨ad198, e198, hx198_0⟩ := Kd.at_int HR0.out 3 p198 q198
          cases e198
          (try simp only [show (3 : Int).toNat = 3 from rfl, Nat.reduceMul, Nat.reduceEqDiff, Go.Addr.add, ↓reduceIte] at hx198_0)
          have qi198 : (3 < l0.length) = True := eq_true (by omega); (try rw [show ((3 : Int)).toNat = 3 from rfl] at hx198_0)
          try replace hx198_0 := cB HB hx198_0
          replace p198 := eq_true p198; replace q198 := eq_true q198; go_wp2
          go_meet
          case rel => exact ⟨_, (decide ((rd l0 3) > 127)), eqA, H', ⟨xq18⟩, ⟨blkA⟩, ⟨belA⟩⟩
        rw [if_neg c18] at H; have c18b0 : decide (127 < (rd l0 3)) = false := decide_eq_false c18; clear c18
        by_cases c19 : (l0.length : Int) > 7; rotate_left
        · rw [if_neg c19] at H; have c19b0 : decide (7 < (l0.length : Int)) = false := decide_eq_false c19; have c19b1 : decide (7 < l0.length) = false := decide_eq_false (by omega); clear c19; have H' := ak H; clear H; have p198 : 0 ≤ (3 : Int) := (by omega); have q198 : 3 < (l0.length : Int) := odA; obtain ⟨ad198, e198, hx198_0⟩ := Kd.at_int HR0.out 3 p198 q198
          cases e198
          (try simp only [show (3 : Int).toNat = 3 from rfl, Nat.reduceMul, Nat.reduceEqDiff, Go.Addr.add, ↓reduceIte] at hx198_0)
          have qi198 : (3 < l0.length) = True := eq_true (by omega); (try rw [show ((3 : Int)).toNat = 3 from rfl] at hx198_0)
          try replace hx198_0 := cB HB hx198_0
          replace p198 := eq_true p198; replace q198 := eq_true q198; go_wp2
          go_meet
          case rel => exact ⟨_, (false), eqA, H', ⟨xq18⟩, ⟨blkA⟩, ⟨belA⟩⟩
        rw [if_pos c19] at H; have c19b0 : decide (7 < (l0.length : Int)) = true := decide_eq_true c19; have c19b1 : decide (7 < l0.length) = true := decide_eq_true (by omega); clear c19
        by_cases c20 : 7 < (l0.length : Int); rotate_left
        · rw [if_neg c20] at H; exact absurd H (by simp)
        rw [if_pos c20] at H; have c20b0 := decide_eq_true c20; have c20b1 : decide (7 < l0.length) = true := decide_eq_true (by omega); clear c20; have H' := ak H; clear H; have p198 : 0 ≤ (3 : Int) := (by omega); have q198 : 3 < (l0.length : Int) := odA; obtain ⟨ad198, e198, hx198_0⟩ := Kd.at_int HR0.out 3 p198 q198
        cases e198
        (try simp only [show (3 : Int).toNat = 3 from rfl, Nat.reduceMul, Nat.reduceEqDiff, Go.Addr.add, ↓reduceIte] at hx198_0)
        have qi198 : (3 < l0.length) = True := eq_true (by omega); (try rw [show ((3 : Int)).toNat = 3 from rfl] at hx198_0)
        try replace hx198_0 := cB HB hx198_0
        replace p198 := eq_true p198; replace q198 := eq_true q198; have p199 : 0 ≤ (7 : Int) := (by omega); have q199 : 7 < (l0.length : Int) := odA; obtain ⟨ad199, e199, hx199_0⟩ := Kd.at_int HR0.out 7 p199 q199; obtain rfl : ad198 = ad199 := (by injection e199); (try simp only [show (7 : Int).toNat = 7 from rfl, Nat.reduceMul, Nat.reduceEqDiff, Go.Addr.add, ↓reduceIte] at hx199_0)
        have qi199 : (7 < l0.length) = True := eq_true (by omega); (try rw [show ((7 : Int)).toNat = 7 from rfl] at hx199_0)
        try replace hx199_0 := cB HB hx199_0
        replace p199 := eq_true p199; replace q199 := eq_true q199; go_wp2
        go_meet
        case rel => exact ⟨_, (decide ((wrap64 (rd l0 7)) > 19)), eqA, H', ⟨xq18⟩, ⟨blkA⟩, ⟨belA⟩⟩
   case rest =>
    clear HC6; obtain ⟨kq, x12_5, rfl, HA, HJ5, BK194, HB⟩ := hcut
    cases kq with
    | zero => exact absurd HA.out (by simp [impl_decodeFrame.j3])
    | succ kj5 =>
     have H := HA.out; clear HA; simp only [impl_decodeFrame.j3] at H
     by_cases c23 : x12_5 = true
     · subst c23; have H1 : (some (0, 0, ([] : List Int), 0, 2)) = some (r1, r2, r3, r4, r5) := by rw [if_pos rfl] at H; exact H
       clear H; have H := H1; clear H1; simp only [Option.some.injEq, Prod.mk.injEq] at H; obtain ⟨rfl, rfl, rfl, rfl, rfl⟩ := H; obtain ⟨_, _, _, _, _, _⟩ := cel3 BK194; go_wp2
       refine bodyPost_ret (results_ctt rfl _ _ gb194 52 #[.int .i64 0, .int .i64 0, .slice none 0 0] (0, 0) _ rfl xq31 Try.underlying52 rfl (by kernel_rfl)) rfl ?_
       exact ⟨_, xq2, xq9, belA⟩
     replace c23 := Bool.eq_false_iff.mpr c23; subst c23; have H1 : (if (l0.length : Int) < 9 then (some (0, 0, ([] : List Int), 0, 1)) else (if 7 ≤ 9 then (if 9 ≤ (l0.length : Int) then ((impl_numberIn.f kj5 ((l0.take 9).drop 7)).bind fun t202 => (if t202 > 5000 then (some (0, 0, ([] : List Int), 0, 2)) else (if (l0.length : Int) < (wrap64 (9 + t202)) then (some (0, 0, ([] : List Int), 0, 1)) else (if 2 ≤ (wrap64 (9 + t202)) then (if (wrap64 (9 + t202)) ≤ (l0.length : Int) then ((impl_checkSum.f kj5 ((l0.take ((wrap64 (9 + t202)) : Int).toNat).drop 2)).bind fun t204 => ((impl_bigEndian.f kj5 t204 4).bind fun t205 => (impl_decodeFrame.l0 kj5 l0 (l0.length : Int) t202 t205 (t205.length : Int) 0))) else (none)) else (none))))) else (none)) else (none))) = some (r1, r2, r3, r4, r5) := by rw [if_neg (show ¬ (false = true) by decide)] at H; exact H
     clear H; have H := H1; clear H1
     by_cases c25 : (l0.length : Int) < 9
     · rw [if_pos c25] at H; have c25b0 := decide_eq_true c25; have c25b1 : decide (l0.length < 9) = true := decide_eq_true (by omega); clear c25; simp only [Option.some.injEq, Prod.mk.injEq] at H; obtain ⟨rfl, rfl, rfl, rfl, rfl⟩ := H; obtain ⟨_, _, _, _, _, _⟩ := cel3 BK194; go_wp2
       refine bodyPost_ret (results_ctt rfl _ _ gb194 52 #[.int .i64 0, .int .i64 0, .slice none 0 0] (0, 0) _ rfl xq31 Try.underlying52 rfl (by kernel_rfl)) rfl ?_
       exact ⟨_, xq2, xq9, belA⟩
     rw [if_neg c25] at H; have c25b0 := decide_eq_false c25; have c25b1 : decide (l0.length < 9) = false := decide_eq_false (by omega); clear c25
     by_cases c27 : 7 ≤ 9; rotate_left
     · rw [if_neg c27] at H; exact absurd H (by simp)
     rw [if_pos c27] at H; have c27b0 := eq_true c27; have c27b1 : decide (7 ≤ 9) = true := decide_eq_true c27; clear c27
     by_cases c28 : 9 ≤ (l0.length : Int); rotate_left
     · rw [if_neg c28] at H; exact absurd H (by simp)
     rw [if_pos c28] at H; have c28b0 := eq_true c28; have c28b1 : decide (9 ≤ (l0.length : Int)) = true := decide_eq_true c28; clear c28; replace H := Option.bind_eq_some_iff.mp H; obtain ⟨t202, A290, H⟩ := H; (try dsimp only at H); have A29 := ak A290; clear A290
     by_cases c30 : t202 > 5000
     · rw [if_pos c30] at H; have c30b0 : decide (5000 < t202) = true := decide_eq_true c30; clear c30; simp only [Option.some.injEq, Prod.mk.injEq] at H; obtain ⟨rfl, rfl, rfl, rfl, rfl⟩ := H; obtain ⟨i031, hi031, _, hsz31, _⟩ := info_parts info5; obtain ⟨A31, hcut31, hA31, hC31⟩ := print_mid_of (P := Try.prog) (Value.int .u8) 0 22 5 .i64 .i64 Try.underlying22 hi031 hsz31 A0 c0 l0 7 9 (by omega) xq8 (odA) HC0.out; try simp only [hji49] at hcut31
       have HR201 := ak (Kd.C_of_reads (h1 := fun _ => rfl) (hA31 _ (Kd.reads_of_C HR0.out))); have HC201 := ak hC31; clear hA31 hC31 hi031 hsz31; go_wp2_with (first | ((with_reducible refine gate_callee (f := 126) rfl ?_); refine goesL_ (some 61) rfl rfl Try.func126 (by kernel_rfl) rfl #[.slice A31 ((l0.take 9).drop 7).length (c0 - 7)] rfl xq45 ?_; (with_reducible refine (impl_numberIn.calls kj5 _ _ ((l0.take 9).drop 7) t202 _ ?side1 ?side2 A29.out).mono ?_); (case side1 => exact cA (Kd.C_below HR201.out HB.out)); (case side2 => exact HC201.out); rintro e w' ⟨rfl, ⟨nd, rfl⟩⟩; refine ⟨_, rfl, ?_⟩; (try (rw [drewN_self wc]; generalize hq_ : World.drewN wc _ = wc; have n0_ : Aside0 (wc.heap[gb194]? = some (.cells #[.int .i64 0, .int .i64 0, .slice none 0 0] 52 (0, 0))) := ⟨xq19⟩; have n1_ : Aside0 (Below w.heap.size w wc) := ⟨by rw [← hq_]; exact belA⟩; have hcy0_0 : wc.cell? ⟨gb194, 0, none⟩ = some (.int .i64 0) := (blk_cell n0_.out 0).trans rfl; have hfy0_0 := blk_frozen n0_.out 0; have hcy0_1 : wc.cell? ⟨gb194, 1, none⟩ = some (.int .i64 0) := (blk_cell n0_.out 1).trans rfl; have hfy0_1 := blk_frozen n0_.out 1; have hcy0_2 : wc.cell? ⟨gb194, 2, none⟩ = some (.slice none 0 0) := (blk_cell n0_.out 2).trans rfl; have hfy0_2 := blk_frozen n0_.out 2; clear BK194 HB hq_; have BK194 := n0_; have HB := n1_; clear n0_ n1_)); obtain ⟨_, _, _, _, _, _⟩ := cel3 BK194))
       refine bodyPost_ret (results_ctt rfl _ _ gb194 52 #[.int .i64 0, .int .i64 0, .slice none 0 0] (0, 0) _ rfl xq31 Try.underlying52 rfl (by kernel_rfl)) rfl ?_
       exact ⟨_, xq2, xq9, belA⟩
     rw [if_neg c30] at H; have c30b0 : decide (5000 < t202) = false := decide_eq_false c30; clear c30
     by_cases c33 : (l0.length : Int) < (wrap64 (9 + t202))
     · rw [if_pos c33] at H; have c33b0 := decide_eq_true c33; have c33b0w : decide ((l0.length : Int) < (IntKind.i64.wrap (9 + t202))) = true := by simp only [i64_w]; exact c33b0
       clear c33; simp only [Option.some.injEq, Prod.mk.injEq] at H; obtain ⟨rfl, rfl, rfl, rfl, rfl⟩ := H; obtain ⟨i034, hi034, _, hsz34, _⟩ := info_parts info5; obtain ⟨A34, hcut34, hA34, hC34⟩ := print_mid_of (P := Try.prog) (Value.int .u8) 0 22 5 .i64 .i64 Try.underlying22 hi034 hsz34 A0 c0 l0 7 9 (by omega) xq8 (odA) HC0.out; try simp only [hji49] at hcut34
       have HR201 := ak (Kd.C_of_reads (h1 := fun _ => rfl) (hA34 _ (Kd.reads_of_C HR0.out))); have HC201 := ak hC34; clear hA34 hC34 hi034 hsz34; go_wp2_with (first | ((with_reducible refine gate_callee (f := 126) rfl ?_); refine goesL_ (some 61) rfl rfl Try.func126 (by kernel_rfl) rfl #[.slice A34 ((l0.take 9).drop 7).length (c0 - 7)] rfl xq45 ?_; (with_reducible refine (impl_numberIn.calls kj5 _ _ ((l0.take 9).drop 7) t202 _ ?side1 ?side2 A29.out).mono ?_); (case side1 => exact cA (Kd.C_below HR201.out HB.out)); (case side2 => exact HC201.out); rintro e w' ⟨rfl, ⟨nd, rfl⟩⟩; refine ⟨_, rfl, ?_⟩; (try (rw [drewN_self wc]; generalize hq_ : World.drewN wc _ = wc; have n0_ : Aside0 (wc.heap[gb194]? = some (.cells #[.int .i64 0, .int .i64 0, .slice none 0 0] 52 (0, 0))) := ⟨xq19⟩; have n1_ : Aside0 (Below w.heap.size w wc) := ⟨by rw [← hq_]; exact belA⟩; have hcy0_0 : wc.cell? ⟨gb194, 0, none⟩ = some (.int .i64 0) := (blk_cell n0_.out 0).trans rfl; have hfy0_0 := blk_frozen n0_.out 0; have hcy0_1 : wc.cell? ⟨gb194, 1, none⟩ = some (.int .i64 0) := (blk_cell n0_.out 1).trans rfl; have hfy0_1 := blk_frozen n0_.out 1; have hcy0_2 : wc.cell? ⟨gb194, 2, none⟩ = some (.slice none 0 0) := (blk_cell n0_.out 2).trans rfl; have hfy0_2 := blk_frozen n0_.out 2; clear BK194 HB hq_; have BK194 := n0_; have HB := n1_; clear n0_ n1_)); obtain ⟨_, _, _, _, _, _⟩ := cel3 BK194))
       refine bodyPost_ret (results_ctt rfl _ _ gb194 52 #[.int .i64 0, .int .i64 0, .slice none 0 0] (0, 0) _ rfl xq31 Try.underlying52 rfl (by kernel_rfl)) rfl ?_
       exact ⟨_, xq2, xq9, belA⟩
     rw [if_neg c33] at H; have c33b0 := decide_eq_false c33; have c33b0w : decide ((l0.length : Int) < (IntKind.i64.wrap (9 + t202))) = false := by simp only [i64_w]; exact c33b0
     clear c33
     by_cases c36 : 2 ≤ (wrap64 (9 + t202)); rotate_left
     · rw [if_neg c36] at H; exact absurd H (by simp)
     rw [if_pos c36] at H; have c36b0 := eq_true c36; have c36b1 : decide (2 ≤ (wrap64 (9 + t202))) = true := decide_eq_true c36; have c36b1w : decide (2 ≤ (IntKind.i64.wrap (9 + t202))) = true := by simp only [i64_w]; exact c36b1
     by_cases c37 : (wrap64 (9 + t202)) ≤ (l0.length : Int); rotate_left
     · rw [if_neg c37] at H; exact absurd H (by simp)
     rw [if_pos c37] at H; have c37b0 := eq_true c37; have c37b1 : decide ((wrap64 (9 + t202)) ≤ (l0.length : Int)) = true := decide_eq_true c37; have c37b1w : decide ((IntKind.i64.wrap (9 + t202)) ≤ (l0.length : Int)) = true := by simp only [i64_w]; exact c37b1
     replace H := Option.bind_eq_some_iff.mp H; obtain ⟨t204, A380, H⟩ := H; (try dsimp only at H); have A38 := ak A380; clear A380; replace H := Option.bind_eq_some_iff.mp H; obtain ⟨t205, A390, H⟩ := H; (try dsimp only at H); have A39 := ak A390; clear A390; have H' := ak H; clear H; obtain ⟨i040, hi040, _, hsz40, _⟩ := info_parts info5; obtain ⟨A40, hcut40, hA40, hC40⟩ := print_mid_of (P := Try.prog) (Value.int .u8) 0 22 5 .i64 .i64 Try.underlying22 hi040 hsz40 A0 c0 l0 7 9 (by omega) xq8 (odA) HC0.out; try simp only [hji49] at hcut40
     have HR201 := ak (Kd.C_of_reads (h1 := fun _ => rfl) (hA40 _ (Kd.reads_of_C HR0.out))); have HC201 := ak hC40; clear hA40 hC40 hi040 hsz40; go_wp2_with (first | ((with_reducible refine gate_callee (f := 126) rfl ?_); refine goesL_ (some 61) rfl rfl Try.func126 (by kernel_rfl) rfl #[.slice A40 ((l0.take 9).drop 7).length (c0 - 7)] rfl xq45 ?_; (with_reducible refine (impl_numberIn.calls kj5 _ _ ((l0.take 9).drop 7) t202 _ ?side1 ?side2 A29.out).mono ?_); (case side1 => exact cA (Kd.C_below HR201.out HB.out)); (case side2 => exact HC201.out); rintro e w' ⟨rfl, ⟨nd, rfl⟩⟩; refine ⟨_, rfl, ?_⟩; obtain ⟨i041, hi041, _, hsz41, _⟩ := info_parts info5; obtain ⟨A41, hcut41, hA41, hC41⟩ := print_mid_of (P := Try.prog) (Value.int .u8) 0 22 5 .i64 .i64 Try.underlying22 hi041 hsz41 A0 c0 l0 2 (wrap64 (9 + t202)) (by omega) xq8 (odA) HC0.out; have HR203 := ak (Kd.C_of_reads (h1 := fun _ => rfl) (hA41 _ (Kd.reads_of_C HR0.out))); have HC203 := ak hC41; clear hA41 hC41 hi041 hsz41) | ((with_reducible refine gate_callee (f := 123) rfl ?_); refine goesL_ (some 74) rfl rfl Try.func123 (by kernel_rfl) rfl #[.slice A41 ((l0.take ((wrap64 (9 + t202)) : Int).toNat).drop 2).length (c0 - 2)] rfl (by (try simp only [List.map_toArray, List.map_cons, List.map_nil]); first | done | ((try simp only [hji49]); rfl) | (simp only [List.length_drop, List.length_take]; (try simp only [hji49]); rfl) | (rw [show ((l0.take ((wrap64 (9 + t202)) : Int).toNat).drop 2).length = ((wrap64 (9 + t202)).toNat - 2) from xq23] <;> rfl) | rfl | (simp only [List.length_drop, List.length_take]; rfl)) ?_; (with_reducible refine (impl_checkSum.calls kj5 _ _ ((l0.take ((wrap64 (9 + t202)) : Int).toNat).drop 2) t204 _ ?side1 ?side2 A38.out).mono ?_); (case side1 => exact cA (Kd.C_below HR203.out belA)); (case side2 => exact HC203.out); rintro e w' ⟨rfl, ⟨nd, rfl⟩⟩; refine ⟨_, rfl, ?_⟩) | ((with_reducible refine gate_callee (f := 122) rfl ?_); refine goB 75 Try.func122 #[.int .i64 t204, .int .i64 4] rfl ?_; (with_reducible refine (impl_bigEndian.calls kj5 t204 4 t205 _ A39.out).mono ?_); rintro e w42 ⟨v206, rfl, ho0, hb⟩; refine ⟨_, rfl, ?_⟩; have HO207 := rL ho0; replace BK194 := bB BK194 hb; replace HB := bS hb; (try clear hb ho0); obtain ⟨Ao43, co43, eo43⟩ := Kd.R_slice HO207.out; subst eo43))
     go_loopg [77] kj5 (fun kq v77 w' => ∃ (x77_3 : Int) (x195000_3 : Int) (x195001_3 : Int), v77 = .int .i64 x77_3 ∧ Aside0 (impl_decodeFrame.l0 kq l0 (l0.length : Int) t202 t205 (t205.length : Int) x77_3 = some (r1, r2, r3, r4, r5)) ∧ Aside0 (kq ≤ kj5) ∧ Aside0 (Kd.R (Kd.int .u8) 5 w' w.heap.size (fun _ => True) (.slice Ao43 t205.length co43) t205) ∧ Aside0 (w'.heap[gb194]? = some (.cells #[.int .i64 x195000_3, .int .i64 x195001_3, (.slice none 0 0)] 52 (0, 0))) ∧ Aside0 (Below w.heap.size w w'))
     case atStart => exact ⟨(0), (0), (0), eqA, H', ⟨Nat.le_refl _⟩, ⟨rA HO207⟩, ⟨blkA⟩, ⟨belA⟩⟩
     case round =>
      clear H'; obtain ⟨x77_3, x195000_3, x195001_3, rfl, HA, HK3, HO_75, BK194, HB⟩ := hrel
      cases gk with
      | zero => exact absurd HA.out (by simp [impl_decodeFrame.l0])
      | succ k3 =>
       have H := HA.out; clear HA; simp only [impl_decodeFrame.l0] at H
       by_cases c44 : x77_3 < (t205.length : Int)
       · rw [if_pos c44] at H; have c44b0 := decide_eq_true c44; clear c44
         by_cases c45 : 0 ≤ x77_3; rotate_left
         · rw [if_neg c45] at H; exact absurd H (by simp)
         rw [if_pos c45] at H; have c45b0 := decide_eq_true c45; clear c45
         by_cases c46 : x77_3 < (t205.length : Int); rotate_left
         · rw [if_neg c46] at H; exact absurd H (by simp)
         rw [if_pos c46] at H; have c46b0 := decide_eq_true c46; clear c46
         by_cases c47 : (wrap64 ((wrap64 (9 + t202)) + x77_3)) = (l0.length : Int)
         · rw [if_pos c47] at H; have c47b0 : ((wrap64 ((wrap64 (9 + t202)) + x77_3)) == (l0.length : Int)) = true := beq_iff_eq.mpr c47; have c47b1 : ((wrap64 ((wrap64 (9 + t202)) + x77_3)) != (l0.length : Int)) = false := bne_eq_false_iff_eq.mpr c47; clear c47; simp only [Option.some.injEq, Prod.mk.injEq] at H; obtain ⟨rfl, rfl, rfl, rfl, rfl⟩ := H; have p219 : 0 ≤ (x77_3 : Int) := odA; have q219 : x77_3 < (t205.length : Int) := odA; obtain ⟨ad219, e219, hx219_0⟩ := Kd.at_int (Kd.R_reads' HO_75.out).2.2 x77_3 p219 q219
           cases e219
           replace p219 := eq_true p219; replace q219 := eq_true q219; obtain ⟨_, _, _, _, _, _⟩ := cel3 BK194; go_wp2
           refine bodyPost_ret (results_ctt rfl _ _ gb194 52 #[.int .i64 0, .int .i64 0, .slice none 0 0] (0, 0) _ rfl xq78 Try.underlying52 rfl (by kernel_rfl)) rfl ?_
           exact ⟨_, xq2, xq9, belA⟩
         rw [if_neg c47] at H; have c47b0 : ((wrap64 ((wrap64 (9 + t202)) + x77_3)) == (l0.length : Int)) = false := beq_eq_false_iff_ne.mpr c47; have c47b1 : ((wrap64 ((wrap64 (9 + t202)) + x77_3)) != (l0.length : Int)) = true := bne_iff_ne.mpr c47; obtain ⟨ji49, hji49⟩ : ∃ j_ : Int, (wrap64 ((wrap64 (9 + t202)) + x77_3)) = j_ := ⟨_, rfl⟩; replace H : (if 0 ≤ (ji49) then (if (ji49) < (l0.length : Int) then (if (rd l0 (ji49)) = (rd t205 x77_3) then (impl_decodeFrame.l0 k3 l0 (l0.length : Int) t202 t205 (t205.length : Int) (wrap64 (x77_3 + 1))) else (some (0, 0, ([] : List Int), 0, 2))) else (none)) else (none)) = some (r1, r2, r3, r4, r5) := by first | (rw [hji49] at H; exact H) | (simp only [hji49] at H ⊢; exact H)
         (try rw [hji49] at c47b0)
         (try rw [hji49] at c47b1)
         have hji49w : (IntKind.i64.wrap ((wrap64 (9 + t202)) + x77_3)) = ji49 := (i64_w _).trans hji49
         by_cases c50 : 0 ≤ (ji49); rotate_left
         · rw [if_neg c50] at H; exact absurd H (by simp)
         rw [if_pos c50] at H; have c50b0 := decide_eq_true c50; clear c50
         by_cases c51 : (ji49) < (l0.length : Int); rotate_left
         · rw [if_neg c51] at H; exact absurd H (by simp)
         rw [if_pos c51] at H; have c51b0 := decide_eq_true c51; clear c51
         by_cases c52 : (rd l0 (ji49)) = (rd t205 x77_3)
         · rw [if_pos c52] at H; have c52b0 : ((rd l0 (ji49)) == (rd t205 x77_3)) = true := beq_iff_eq.mpr c52; have c52b1 : ((rd l0 (ji49)) != (rd t205 x77_3)) = false := bne_eq_false_iff_eq.mpr c52; clear c52; have H' := ak H; clear H; have p219 : 0 ≤ (x77_3 : Int) := odA; have q219 : x77_3 < (t205.length : Int) := odA; obtain ⟨ad219, e219, hx219_0⟩ := Kd.at_int (Kd.R_reads' HO_75.out).2.2 x77_3 p219 q219
           cases e219
           replace p219 := eq_true p219; replace q219 := eq_true q219; have p220 : 0 ≤ ((ji49) : Int) := odA; have q220 : (ji49) < (l0.length : Int) := odA; obtain ⟨ad220, e220, hx220_0⟩ := Kd.at_int HR0.out (ji49) p220 q220
           cases e220
           try replace hx220_0 := cB HB hx220_0
           replace p220 := eq_true p220; replace q220 := eq_true q220; go_wp2
           go_roundg k3
           case measure => have := HJ1.out; have := HJ5.out; have := HK3.out; omega
           case rel => exact ⟨(wrap64 (x77_3 + 1)), (x195000_3), (x195001_3), eqA, H', ⟨by have := HJ1.out; have := HJ5.out; have := HK3.out; omega⟩, ⟨rA HO_75⟩, ⟨blkA⟩, ⟨belA⟩⟩
         rw [if_neg c52] at H; have c52b0 : ((rd l0 (ji49)) == (rd t205 x77_3)) = false := beq_eq_false_iff_ne.mpr c52; have c52b1 : ((rd l0 (ji49)) != (rd t205 x77_3)) = true := bne_iff_ne.mpr c52; simp only [Option.some.injEq, Prod.mk.injEq] at H; obtain ⟨rfl, rfl, rfl, rfl, rfl⟩ := H; have p219 : 0 ≤ (x77_3 : Int) := odA; have q219 : x77_3 < (t205.length : Int) := odA; obtain ⟨ad219, e219, hx219_0⟩ := Kd.at_int (Kd.R_reads' HO_75.out).2.2 x77_3 p219 q219
         cases e219
         replace p219 := eq_true p219; replace q219 := eq_true q219; have p220 : 0 ≤ ((ji49) : Int) := odA; have q220 : (ji49) < (l0.length : Int) := odA; obtain ⟨ad220, e220, hx220_0⟩ := Kd.at_int HR0.out (ji49) p220 q220
         cases e220
         try replace hx220_0 := cB HB hx220_0
         replace p220 := eq_true p220; replace q220 := eq_true q220; obtain ⟨_, _, _, _, _, _⟩ := cel3 BK194; go_wp2
         refine bodyPost_ret (results_ctt rfl _ _ gb194 52 #[.int .i64 0, .int .i64 0, .slice none 0 0] (0, 0) _ rfl xq78 Try.underlying52 rfl (by kernel_rfl)) rfl ?_
         exact ⟨_, by first | rfl | (simp [errW_none, errW_some] <;> rfl) | (simp only [← hji49]; first | rfl | (simp [errW_none, errW_some] <;> rfl)) | (simp [*, errW_none, errW_some] <;> rfl) | (simp [wrap64]; done) | (simp [*, wrap64]; done), xq9, belA⟩
       rw [if_neg c44] at H; have c44b0 := decide_eq_false c44; clear c44
       by_cases c54 : 2 < (l0.length : Int); rotate_left
       · rw [if_neg c54] at H; exact absurd H (by simp)
       rw [if_pos c54] at H; have c54b0 := decide_eq_true c54; have c54b1 : decide (2 < l0.length) = true := decide_eq_true (by omega); clear c54
       by_cases c55 : 3 ≤ 7; rotate_left
       · rw [if_neg c55] at H; exact absurd H (by simp)
       rw [if_pos c55] at H; have c55b0 := eq_true c55; have c55b1 : decide (3 ≤ 7) = true := decide_eq_true c55; clear c55
       by_cases c56 : 7 ≤ (l0.length : Int); rotate_left
       · rw [if_neg c56] at H; exact absurd H (by simp)
       rw [if_pos c56] at H; have c56b0 := eq_true c56; have c56b1 : decide (7 ≤ (l0.length : Int)) = true := decide_eq_true c56; clear c56; replace H := Option.bind_eq_some_iff.mp H; obtain ⟨t210, A570, H⟩ := H; (try dsimp only at H); have A57 := ak A570; clear A570; obtain ⟨y211, hyq⟩ : ∃ y_ : List Int, y_ = (([] : List Int)) := ⟨_, rfl⟩; replace H : (if 9 ≤ (wrap64 (9 + t202)) then (if (wrap64 (9 + t202)) ≤ (l0.length : Int) then (if y211.length + ((l0.take ((wrap64 (9 + t202)) : Int).toNat).drop 9).length < 140737488355328 then (some (wrap64 (rd l0 2), t210, (y211 ++ ((l0.take ((wrap64 (9 + t202)) : Int).toNat).drop 9)), wrap64 (13 + t202), 0)) else (none)) else (none)) else (none)) = some (r1, r2, r3, r4, r5) := by first | (rw [hyq]; with_reducible exact H) | (have H2_ := (Option.bind_some _ _).symm.trans H; rw [hyq]; with_reducible exact H2_) | (have H2_ := (Option.bind_some _ _).symm.trans H; with_reducible exact H2_) | with_reducible exact H | (rw [hyq]; exact H) | exact H
       have Ny211 := ak hyq; clear hyq
       by_cases c58 : 9 ≤ (wrap64 (9 + t202)); rotate_left
       · rw [if_neg c58] at H; exact absurd H (by simp)
       rw [if_pos c58] at H; have c58b0 := eq_true c58; have c58b1 : decide (9 ≤ (wrap64 (9 + t202))) = true := decide_eq_true c58; have c58b1w : decide (9 ≤ (IntKind.i64.wrap (9 + t202))) = true := by simp only [i64_w]; exact c58b1
       by_cases c59 : (wrap64 (9 + t202)) ≤ (l0.length : Int); rotate_left
       · rw [if_neg c59] at H; exact absurd H (by simp)
       rw [if_pos c59] at H; have c59b0 := eq_true c59; have c59b1 : decide ((wrap64 (9 + t202)) ≤ (l0.length : Int)) = true := decide_eq_true c59; have c59b1w : decide ((IntKind.i64.wrap (9 + t202)) ≤ (l0.length : Int)) = true := by simp only [i64_w]; exact c59b1
       by_cases c60 : y211.length + ((l0.take ((wrap64 (9 + t202)) : Int).toNat).drop 9).length < 140737488355328; rotate_left
       · rw [if_neg c60] at H; exact absurd H (by simp)
       rw [if_pos c60] at H; have LMc60 := ak c60; clear c60; obtain ⟨y215, hyq⟩ : ∃ y_ : List Int, y_ = (y211 ++ ((l0.take ((wrap64 (9 + t202)) : Int).toNat).drop 9)) := ⟨_, rfl⟩; replace H : (some (wrap64 (rd l0 2), t210, y215, wrap64 (13 + t202), 0)) = some (r1, r2, r3, r4, r5) := by first | (rw [hyq]; with_reducible exact H) | (have H2_ := (Option.bind_some _ _).symm.trans H; rw [hyq]; with_reducible exact H2_) | (have H2_ := (Option.bind_some _ _).symm.trans H; with_reducible exact H2_) | with_reducible exact H | (rw [hyq]; exact H) | exact H
       have Ny215 := ak hyq; clear hyq; simp only [Option.some.injEq, Prod.mk.injEq] at H; obtain ⟨rfl, rfl, rfl, rfl, rfl⟩ := H; try go_wp2
       replace HO_75 := ak (Kd.R_drew HO_75.out); replace BK194 := ak (blk_drew BK194.out); replace HB := ak (below_drew1 HB.out); have p208 : 0 ≤ (2 : Int) := (by omega); have q208 : 2 < (l0.length : Int) := odA; obtain ⟨ad208, e208, hx208_0⟩ := Kd.at_int HR0.out 2 p208 q208; have hw208_0 := hx208_0; (try rw [show ((2 : Int)).toNat = 2 from rfl] at hw208_0)
       (try rw [show 2 * 1 = 2 from rfl] at hw208_0)
       (try simp only [Nat.reduceMul, Nat.reduceEqDiff, Go.Addr.add, ↓reduceIte] at hw208_0)
       cases e208
       (try simp only [show (2 : Int).toNat = 2 from rfl, Nat.reduceMul, Nat.reduceEqDiff, Go.Addr.add, ↓reduceIte] at hx208_0)
       have qi208 : (2 < l0.length) = True := eq_true (by omega); (try rw [show ((2 : Int)).toNat = 2 from rfl] at hx208_0)
       try replace hx208_0 := cB HB hx208_0
       replace p208 := eq_true p208; replace q208 := eq_true q208; obtain ⟨i062, hi062, _, hsz62, _⟩ := info_parts info5; obtain ⟨A62, hcut62, hA62, hC62⟩ := print_mid_of (P := Try.prog) (Value.int .u8) 0 22 5 .i64 .i64 Try.underlying22 hi062 hsz62 (some ad208) c0 l0 3 7 (by omega) xq8 (odA) HC0.out; try simp only [hji49] at hcut62
       have HR209 := ak (Kd.C_of_reads (h1 := fun _ => rfl) (hA62 _ (Kd.reads_of_C HR0.out))); have HC209 := ak hC62; clear hA62 hC62 hi062 hsz62; obtain ⟨i063, hi063, _, hsz63, _⟩ := info_parts info5; obtain ⟨A63, hcut63, hA63, hC63⟩ := print_mid_of (P := Try.prog) (Value.int .u8) 0 22 5 .i64 .i64 Try.underlying22 hi063 hsz63 (some ad208) c0 l0 9 (wrap64 (9 + t202)) (by omega) xq8 (odA) HC0.out; try simp only [hji49] at hcut63
       have HR214 := ak (Kd.C_of_reads (h1 := fun _ => rfl) (hA63 _ (Kd.reads_of_C HR0.out))); have HC214 := ak hC63; clear hA63 hC63 hi063 hsz63; refine start_ (n := 16) (S := fun w' => w'.cell? ⟨ad208.block, ad208.off + 2, none⟩ = some (.int .u8 (rd l0 2))) (ds := []) #[false, false, false, false, false, false, false, false, false, false, false, false, false, false, false, false] (by kernel_rfl) rfl rfl (((HB.out.cell (World.block_lt_of_cell? w _ hw208_0)).trans hw208_0)) (fun hHeld => ?_); refine with_tabW impl_decodeFrame.tab23 impl_decodeFrame.bits23 (fun HT_ HW_ => ?_)
       generalize wr.drew = w61 at HO_75 BK194 HB HR209 HR214 hx208_0 hHeld ⊢
       refine pure_ (i := 0) (N := some 100) (v := ?_) (a' := ?_) #[true, false, false, false, false, false, false, false, false, false, false, false, false, false, false, false] rfl rfl (any_of HT_.out (by kernel_rfl)) (fun _ _ _ h => h) (Or.inl ⟨by rfl, ?_⟩) ?_ ?_
       rotate_left
       · intro w'; go_simp
         with_reducible rfl
       rotate_left
       · simp only [Act.put, sa, sb, sc, i64_w, i32_w]
         rfl
       refine pure_ (i := 1) (N := some 101) (v := ?_) (a' := ?_) #[true, true, false, false, false, false, false, false, false, false, false, false, false, false, false, false] rfl rfl (any_of HT_.out (by kernel_rfl)) (fun _ _ _ h => h) (Or.inl ⟨by rfl, ?_⟩) ?_ ?_
       rotate_left
       · intro w'; go_simp
         with_reducible rfl
       rotate_left
       · simp only [Act.put, sa, sb, sc, i64_w, i32_w]
         rfl
       refine pure_ (i := 4) (N := some 104) (v := ?_) (a' := ?_) #[true, true, false, false, true, false, false, false, false, false, false, false, false, false, false, false] rfl rfl (any_of HT_.out (by kernel_rfl)) (fun _ _ _ h => h) (Or.inl ⟨by rfl, ?_⟩) ?_ ?_
       rotate_left
       · intro w'; go_simp
         with_reducible rfl
       rotate_left
       · simp only [Act.put, sa, sb, sc, i64_w, i32_w]
         rfl
       refine pure_ (i := 5) (N := some 105) (v := ?_) (a' := ?_) #[true, true, false, false, true, true, false, false, false, false, false, false, false, false, false, false] rfl rfl (any_of HT_.out (by kernel_rfl)) (fun _ _ _ h => h) (Or.inl ⟨by rfl, ?_⟩) ?_ ?_
       rotate_left
       · intro w'; go_simp
         with_reducible rfl
       rotate_left
       · simp only [Act.put, sa, sb, sc, i64_w, i32_w]
         rfl
       refine pure_ (i := 8) (N := some 108) (v := ?_) (a' := ?_) #[true, true, false, false, true, true, false, false, true, false, false, false, false, false, false, false] rfl rfl (any_of HT_.out (by kernel_rfl)) (fun _ _ _ h => h) (Or.inl ⟨by rfl, ?_⟩) ?_ ?_
       rotate_left
       · intro w'; go_simp
         with_reducible rfl
       rotate_left
       · simp only [Act.put, sa, sb, sc, i64_w, i32_w]
         rfl
       refine pure_ (i := 9) (N := some 109) (v := ?_) (a' := ?_) #[true, true, false, false, true, true, false, false, true, true, false, false, false, false, false, false] rfl rfl (any_of HT_.out (by kernel_rfl)) (fun _ _ _ h => h) (Or.inl ⟨by rfl, ?_⟩) ?_ ?_
       rotate_left
       · intro w'; go_simp
         with_reducible rfl
       rotate_left
       · simp only [Act.put, sa, sb, sc, i64_w, i32_w]
         rfl
       refine pure_ (i := 10) (N := some 110) (v := ?_) (a' := ?_) #[true, true, false, false, true, true, false, false, true, true, true, false, false, false, false, false] rfl rfl (any_of HT_.out (by kernel_rfl)) (fun _ _ _ h => h) (Or.inl ⟨by rfl, ?_⟩) ?_ ?_
       rotate_left
       · intro w'; go_simp
         with_reducible rfl
       rotate_left
       · simp only [Act.put, sa, sb, sc, i64_w, i32_w]
         rfl
       refine pure_ (i := 11) (N := some 111) (v := ?_) (a' := ?_) #[true, true, false, false, true, true, false, false, true, true, true, true, false, false, false, false] rfl rfl (any_of HT_.out (by kernel_rfl)) (fun _ _ _ h => h) (Or.inl ⟨by rfl, ?_⟩) ?_ ?_
       rotate_left
       · intro w'; go_simp
         with_reducible rfl
       rotate_left
       · simp only [Act.put, sa, sb, sc, i64_w, i32_w]
         rfl
       refine take_ (i := 2) (N := some 102) (v := ?_) (a' := ?_) #[true, true, true, false, true, true, false, false, true, true, true, true, false, false, false, false] rfl rfl (take_ofW HT_.out HW_.out (by kernel_rfl)) (fun _ _ _ h => h) (Or.inl ⟨by rfl, ?_⟩) hHeld ?_ ?_
       rotate_left
       · intro w' s0; go_simp
         with_reducible rfl
       rotate_left
       · simp only [Act.put, sa, sb, sc, i64_w, i32_w]
         rfl
       refine pure_ (i := 3) (N := some 103) (v := ?_) (a' := ?_) #[true, true, true, true, true, true, false, false, true, true, true, true, false, false, false, false] rfl rfl (any_of HT_.out (by kernel_rfl)) (fun _ _ _ h => h) (Or.inl ⟨by rfl, ?_⟩) ?_ ?_
       rotate_left
       · intro w'; go_simp
         with_reducible rfl
       rotate_left
       · simp only [Act.put, sa, sb, sc, i64_w, i32_w]
         rfl
       refine join_ (σ := Value × Value × Nat) 1 #[true, true, true, true, true, true, true, true, true, true, true, true, true, true, true, false] (fun s_ => [(106, .int .i64 t210), (107, s_.1), (112, s_.2.1), (9, .pointer (some ⟨s_.2.2, 0, none⟩)), (113, .agg #[.int .i64 (wrap64 (rd l0 2)), .int .i64 t210, s_.2.1])]) (fun s_ w' => (w'.cell? ⟨ad208.block, ad208.off + 2, none⟩ = some (.int .u8 (rd l0 2))) ∧ (Kd.R (Kd.int .u8) 5 w' w.heap.size (fun k_ => some k_ ≠ (.slice Ao43 t205.length co43 : Value).ownBlock) s_.2.1 y215) ∧ (Kd.R (Kd.int .u8) 5 w' w.heap.size (fun k_ => some k_ ≠ (s_.2.1 : Value).ownBlock) (.slice Ao43 t205.length co43) t205) ∧ (w'.heap[gb194]? = some (.cells #[.int .i64 x195000_3, .int .i64 x195001_3, .slice none 0 0] 52 (0, 0))) ∧ (w'.heap[s_.2.2]? = some (.cells #[.int .i64 0, .int .i64 0, .slice none 0 0] 52 (0, 0))) ∧ (w.heap.size ≤ s_.2.2) ∧ (w.heap.size ≤ s_.2.2) ∧ (gb194 ≠ s_.2.2) ∧ (s_.2.2 ≠ gb194) ∧ (Below w.heap.size w w')) ?_ ?_
       rotate_left
       · intro hJ6_7_12_14; refine join_ (σ := Value × Value) 2 #[true, true, true, true, true, true, true, true, true, true, true, true, true, true, false, false] (fun s_ => [(106, .int .i64 t210), (107, s_.1), (112, s_.2), (113, .agg #[.int .i64 (wrap64 (rd l0 2)), .int .i64 t210, s_.2])]) (fun s_ w' => (w'.cell? ⟨ad208.block, ad208.off + 2, none⟩ = some (.int .u8 (rd l0 2))) ∧ (Kd.R (Kd.int .u8) 5 w' w.heap.size (fun k_ => some k_ ≠ (.slice Ao43 t205.length co43 : Value).ownBlock) s_.2 y215) ∧ (Kd.R (Kd.int .u8) 5 w' w.heap.size (fun k_ => some k_ ≠ (s_.2 : Value).ownBlock) (.slice Ao43 t205.length co43) t205) ∧ (w'.heap[gb194]? = some (.cells #[.int .i64 x195000_3, .int .i64 x195001_3, .slice none 0 0] 52 (0, 0))) ∧ (Below w.heap.size w w')) ?_ ?_
         rotate_left
         · intro hJ6_7_12; refine join_ (σ := Value × Nat) 3 #[true, true, true, true, true, true, true, true, true, true, true, true, false, false, true, false] (fun s_ => [(106, .int .i64 t210), (107, s_.1), (9, .pointer (some ⟨s_.2, 0, none⟩))]) (fun s_ w' => (w'.cell? ⟨ad208.block, ad208.off + 2, none⟩ = some (.int .u8 (rd l0 2))) ∧ (Kd.R (Kd.int .u8) 5 w' w.heap.size (fun k_ => some k_ ≠ (.slice Ao43 t205.length co43 : Value).ownBlock) s_.1 y211) ∧ (Kd.R (Kd.int .u8) 5 w' w.heap.size (fun k_ => some k_ ≠ (s_.1 : Value).ownBlock) (.slice Ao43 t205.length co43) t205) ∧ (w'.heap[gb194]? = some (.cells #[.int .i64 x195000_3, .int .i64 x195001_3, .slice none 0 0] 52 (0, 0))) ∧ (w'.heap[s_.2]? = some (.cells #[.int .i64 0, .int .i64 0, .slice none 0 0] 52 (0, 0))) ∧ (w.heap.size ≤ s_.2) ∧ (w.heap.size ≤ s_.2) ∧ (gb194 ≠ s_.2) ∧ (s_.2 ≠ gb194) ∧ (Below w.heap.size w w')) ?_ ?_
           rotate_left
           · intro hJ6_7_14; refine join_ (σ := Value) 4 #[true, true, true, true, true, true, true, true, true, true, true, true, false, false, false, false] (fun s_ => [(106, .int .i64 t210), (107, s_)]) (fun s_ w' => (w'.cell? ⟨ad208.block, ad208.off + 2, none⟩ = some (.int .u8 (rd l0 2))) ∧ (Kd.R (Kd.int .u8) 5 w' w.heap.size (fun k_ => some k_ ≠ (.slice Ao43 t205.length co43 : Value).ownBlock) s_ y211) ∧ (Kd.R (Kd.int .u8) 5 w' w.heap.size (fun k_ => some k_ ≠ (s_ : Value).ownBlock) (.slice Ao43 t205.length co43) t205) ∧ (w'.heap[gb194]? = some (.cells #[.int .i64 x195000_3, .int .i64 x195001_3, .slice none 0 0] 52 (0, 0))) ∧ (Below w.heap.size w w')) ?_ ?_
             rotate_left
             · intro hJ6_7; refine join_ (σ := Nat) 4 #[true, true, true, true, true, true, true, false, true, true, true, true, false, false, true, false] (fun s_ => [(106, .int .i64 t210), (9, .pointer (some ⟨s_, 0, none⟩))]) (fun s_ w' => (w'.cell? ⟨ad208.block, ad208.off + 2, none⟩ = some (.int .u8 (rd l0 2))) ∧ (Kd.R (Kd.int .u8) 5 w' w.heap.size (fun _ => True) (.slice Ao43 t205.length co43) t205) ∧ (w'.heap[gb194]? = some (.cells #[.int .i64 x195000_3, .int .i64 x195001_3, .slice none 0 0] 52 (0, 0))) ∧ (w'.heap[s_]? = some (.cells #[.int .i64 0, .int .i64 0, .slice none 0 0] 52 (0, 0))) ∧ (w.heap.size ≤ s_) ∧ (w.heap.size ≤ s_) ∧ (gb194 ≠ s_) ∧ (s_ ≠ gb194) ∧ (Below w.heap.size w w')) ?_ ?_
               rotate_left
               · intro hJ6_14; refine join_ (σ := Value × Nat) 4 #[true, true, true, true, true, true, false, true, true, true, true, true, false, false, true, false] (fun s_ => [(107, s_.1), (9, .pointer (some ⟨s_.2, 0, none⟩))]) (fun s_ w' => (w'.cell? ⟨ad208.block, ad208.off + 2, none⟩ = some (.int .u8 (rd l0 2))) ∧ (Kd.R (Kd.int .u8) 5 w' w.heap.size (fun k_ => some k_ ≠ (.slice Ao43 t205.length co43 : Value).ownBlock) s_.1 y211) ∧ (Kd.R (Kd.int .u8) 5 w' w.heap.size (fun k_ => some k_ ≠ (s_.1 : Value).ownBlock) (.slice Ao43 t205.length co43) t205) ∧ (w'.heap[gb194]? = some (.cells #[.int .i64 x195000_3, .int .i64 x195001_3, .slice none 0 0] 52 (0, 0))) ∧ (w'.heap[s_.2]? = some (.cells #[.int .i64 0, .int .i64 0, .slice none 0 0] 52 (0, 0))) ∧ (w.heap.size ≤ s_.2) ∧ (w.heap.size ≤ s_.2) ∧ (gb194 ≠ s_.2) ∧ (s_.2 ≠ gb194) ∧ (Below w.heap.size w w')) ?_ ?_
                 rotate_left
                 · intro hJ7_14; refine join_ (σ := Unit) 5 #[true, true, true, true, true, true, true, false, true, true, true, true, false, false, false, false] (fun s_ => [(106, .int .i64 t210)]) (fun s_ w' => (w'.cell? ⟨ad208.block, ad208.off + 2, none⟩ = some (.int .u8 (rd l0 2))) ∧ (Kd.R (Kd.int .u8) 5 w' w.heap.size (fun _ => True) (.slice Ao43 t205.length co43) t205) ∧ (w'.heap[gb194]? = some (.cells #[.int .i64 x195000_3, .int .i64 x195001_3, .slice none 0 0] 52 (0, 0))) ∧ (Below w.heap.size w w')) ?_ ?_
                   rotate_left
                   · intro hJ6; refine join_ (σ := Value) 5 #[true, true, true, true, true, true, false, true, true, true, true, true, false, false, false, false] (fun s_ => [(107, s_)]) (fun s_ w' => (w'.cell? ⟨ad208.block, ad208.off + 2, none⟩ = some (.int .u8 (rd l0 2))) ∧ (Kd.R (Kd.int .u8) 5 w' w.heap.size (fun k_ => some k_ ≠ (.slice Ao43 t205.length co43 : Value).ownBlock) s_ y211) ∧ (Kd.R (Kd.int .u8) 5 w' w.heap.size (fun k_ => some k_ ≠ (s_ : Value).ownBlock) (.slice Ao43 t205.length co43) t205) ∧ (w'.heap[gb194]? = some (.cells #[.int .i64 x195000_3, .int .i64 x195001_3, .slice none 0 0] 52 (0, 0))) ∧ (Below w.heap.size w w')) ?_ ?_
                     rotate_left
                     · intro hJ7; refine join_ (σ := Nat) 5 #[true, true, true, true, true, true, false, false, true, true, true, true, false, false, true, false] (fun s_ => [(9, .pointer (some ⟨s_, 0, none⟩))]) (fun s_ w' => (w'.cell? ⟨ad208.block, ad208.off + 2, none⟩ = some (.int .u8 (rd l0 2))) ∧ (Kd.R (Kd.int .u8) 5 w' w.heap.size (fun _ => True) (.slice Ao43 t205.length co43) t205) ∧ (w'.heap[gb194]? = some (.cells #[.int .i64 x195000_3, .int .i64 x195001_3, .slice none 0 0] 52 (0, 0))) ∧ (w'.heap[s_]? = some (.cells #[.int .i64 0, .int .i64 0, .slice none 0 0] 52 (0, 0))) ∧ (w.heap.size ≤ s_) ∧ (w.heap.size ≤ s_) ∧ (gb194 ≠ s_) ∧ (s_ ≠ gb194) ∧ (Below w.heap.size w w')) ?_ ?_
                       rotate_left
                       · intro hJ14; refine three_ (i := 6) (j := 7) (k := 14) (Ni := some 106) (Nj := some 107) (Nk := some 9) #[true, true, true, true, true, true, true, false, true, true, true, true, false, false, false, false] #[true, true, true, true, true, true, false, true, true, true, true, true, false, false, false, false] #[true, true, true, true, true, true, false, false, true, true, true, true, false, false, true, false] rfl rfl rfl rfl rfl rfl (three_of HT_.out (by kernel_rfl)) (by decide) (by decide) (by decide) (fun K hK => ?_) (fun K hK => ?_) (fun K hK => ?_)
                         · skip
                           refine goes_ Try.func126 (by kernel_rfl) rfl #[.slice A62 ((l0.take 7).drop 3).length (c0 - 3)] (by rfl) rfl rfl xq32 ?_
                           with_reducible refine (impl_numberIn.calls k3 _ _ ((l0.take 7).drop 3) t210 _ ?side1 ?side2 A57.out).mono ?_
                           (case side1 => exact cA (Kd.C_below HR209.out HB.out))
                           (case side2 => exact HC209.out)
                           rintro e w' ⟨rfl, ⟨nd, rfl⟩⟩
                           refine ⟨_, rfl, ?_⟩
                           refine hK.out _ _ (((HB.out.cell (World.block_lt_of_cell? w _ hw208_0)).trans hw208_0)) (fun hHeld => ?_)
                           clear hK K; refine norm_ (a' := ?_) ?_ ?_
                           rotate_left
                           · show Act.put _ (some 106) _ = _
                             simp only [Act.put, sa, sb, sc, i64_w, i32_w]
                             rfl
                           exact norm_ xq7 (hJ6 () _ ⟨hHeld, (rF HO_75), blkA, belA⟩)
                         · skip
                           refine Kd.R_lit_step (Kd.int .u8) _ 5 ?hg (N := 107) ?hd (xs := ([] : List Int)) (inner := []) (ok := fun _ => True) (okp := fun _ => True) ?hr ?hp (fun _ hk => hk) trivial (Below.refl _ _) (Nat.le_refl _) (by simp) ?_; (case hd => rfl); (case hg => rfl); (case hr => exact xq4); (case hp => exact (Reps.none _ _))
                           intro v212 w64 ho65 hb hg_ hnew_; clear hg_ hnew_; (first | rw [← Ny211.out] at ho65 | (simp only [Int.reduceToNat] at ho65; rw [← Ny211.out] at ho65))
                           have HO213 := rL (Kd.R_new' ho65 (Kd.R_lt (rF HO_75))); replace HO_75 := ak (Kd.R_elder' (rF HO_75) (Kd.R_base ho65) hb); replace BK194 := bB BK194 hb; replace HB := bS hb; clear hb ho65; refine hK.out _ _ (((HB.out.cell (World.block_lt_of_cell? w _ hw208_0)).trans hw208_0)) (fun hHeld => ?_)
                           clear hK K; refine norm_ (a' := ?_) ?_ ?_
                           rotate_left
                           · show Act.put _ (some 107) _ = _
                             simp only [Act.put, sa, sb, sc, i64_w, i32_w]
                             rfl
                           exact norm_ xq7 (hJ7 (v212) _ ⟨hHeld, (rE (Kd.R_mono HO213.out (fun _ hk => hk.2))), (rE (Kd.R_mono HO_75.out (fun _ hk => hk.2))), blkA, belA⟩)
                         · skip
                           refine box_step ?hg (N := 9) ?hd (cs := #[.int .i64 0, .int .i64 0, .slice none 0 0]) (t := 52) ?hr ?_; (case hd => rfl); (case hg => rfl); (case hr => exact xq4)
                           intro gb218 hg w64 hbox hb; have BK218 := ak hbox; have GW218 := leA (w := w) hg; have GE218 := leA (w := w) hg; have NB194_218 := neL hg BK194; have NB218_194 := neG hg BK194; replace HO_75 := ak (Kd.R_below (rF HO_75) hb); replace BK194 := bB BK194 hb; replace HB := bS hb; clear hb hbox hg; refine hK.out _ _ (((HB.out.cell (World.block_lt_of_cell? w _ hw208_0)).trans hw208_0)) (fun hHeld => ?_)
                           clear hK K; refine norm_ (a' := ?_) ?_ ?_
                           rotate_left
                           · show Act.put _ (some 9) _ = _
                             simp only [Act.put, sa, sb, sc, i64_w, i32_w]
                             rfl
                           exact norm_ xq7 (hJ14 (gb218) _ ⟨hHeld, (rF HO_75), blkA, blkA, GW218.out, GE218.out, NB194_218.out, NB218_194.out, belA⟩)
                       · skip
                         rintro gb218 w65 ⟨hS_, h0_, h1_, h2_, h3_, h4_, h5_, h6_, h7_⟩
                         have n0_ : Aside0 (Kd.R (Kd.int .u8) 5 w65 w.heap.size (fun _ => True) (.slice Ao43 t205.length co43) t205) := ⟨h0_⟩; have n1_ : Aside0 (w65.heap[gb194]? = some (.cells #[.int .i64 x195000_3, .int .i64 x195001_3, .slice none 0 0] 52 (0, 0))) := ⟨h1_⟩; have n2_ : Aside0 (w65.heap[gb218]? = some (.cells #[.int .i64 0, .int .i64 0, .slice none 0 0] 52 (0, 0))) := ⟨h2_⟩; have n3_ : Aside0 (w.heap.size ≤ gb218) := ⟨h3_⟩; have n4_ : Aside0 (w.heap.size ≤ gb218) := ⟨h4_⟩; have n5_ : Aside0 (gb194 ≠ gb218) := ⟨h5_⟩; have n6_ : Aside0 (gb218 ≠ gb194) := ⟨h6_⟩; have n7_ : Aside0 (Below w.heap.size w w65) := ⟨h7_⟩; clear HO_75; clear BK194; clear HB; clear h0_ h1_ h2_ h3_ h4_ h5_ h6_ h7_; have HO_75 := n0_; have BK194 := n1_; have BK218 := n2_; have GW218 := n3_; have GE218 := n4_; have NB194_218 := n5_; have NB218_194 := n6_; have HB := n7_; clear n0_ n1_ n2_ n3_ n4_ n5_ n6_ n7_; have hHeld : w65.cell? ⟨ad208.block, ad208.off + 2, none⟩ = some (.int .u8 (rd l0 2)) := hS_; refine norm_ (a' := ?_) ?_ ?_
                         rotate_left
                         · simp only [putAll, Act.put, sa, sb, sc]
                           rfl
                         refine two_ (i := 6) (j := 7) (Ni := some 106) (Nj := some 107) #[true, true, true, true, true, true, true, false, true, true, true, true, false, false, true, false] #[true, true, true, true, true, true, false, true, true, true, true, true, false, false, true, false] rfl rfl rfl rfl (two_of HT_.out (by kernel_rfl)) (by decide) (by decide) (fun K hK => ?_) (fun K hK => ?_)
                         · skip
                           refine goes_ Try.func126 (by kernel_rfl) rfl #[.slice A62 ((l0.take 7).drop 3).length (c0 - 3)] (by rfl) rfl rfl xq32 ?_
                           with_reducible refine (impl_numberIn.calls k3 _ _ ((l0.take 7).drop 3) t210 _ ?side1 ?side2 A57.out).mono ?_
                           (case side1 => exact cA (Kd.C_below HR209.out HB.out))
                           (case side2 => exact HC209.out)
                           rintro e w' ⟨rfl, ⟨nd, rfl⟩⟩
                           refine ⟨_, rfl, ?_⟩
                           refine hK.out _ _ (((HB.out.cell (World.block_lt_of_cell? w _ hw208_0)).trans hw208_0)) (fun hHeld => ?_)
                           clear hK K; refine norm_ (a' := ?_) ?_ ?_
                           rotate_left
                           · show Act.put _ (some 106) _ = _
                             simp only [Act.put, sa, sb, sc, i64_w, i32_w]
                             rfl
                           exact norm_ xq7 (hJ6_14 (gb218) _ ⟨hHeld, (rF HO_75), blkA, blkA, GW218.out, GE218.out, NB194_218.out, NB218_194.out, belA⟩)
                         · skip
                           refine Kd.R_lit_step (Kd.int .u8) _ 5 ?hg (N := 107) ?hd (xs := ([] : List Int)) (inner := []) (ok := fun _ => True) (okp := fun _ => True) ?hr ?hp (fun _ hk => hk) trivial (Below.refl _ _) (Nat.le_refl _) (by simp) ?_; (case hd => rfl); (case hg => rfl); (case hr => exact xq4); (case hp => exact (Reps.none _ _))
                           intro v212 w66 ho67 hb hg_ hnew_; clear hg_ hnew_; (first | rw [← Ny211.out] at ho67 | (simp only [Int.reduceToNat] at ho67; rw [← Ny211.out] at ho67))
                           have HO213 := rL (Kd.R_new' ho67 (Kd.R_lt (rF HO_75))); replace HO_75 := ak (Kd.R_elder' (rF HO_75) (Kd.R_base ho67) hb); replace BK194 := bB BK194 hb; replace BK218 := bB BK218 hb; replace HB := bS hb; clear hb ho67; refine hK.out _ _ (((HB.out.cell (World.block_lt_of_cell? w _ hw208_0)).trans hw208_0)) (fun hHeld => ?_)
                           clear hK K; refine norm_ (a' := ?_) ?_ ?_
                           rotate_left
                           · show Act.put _ (some 107) _ = _
                             simp only [Act.put, sa, sb, sc, i64_w, i32_w]
                             rfl
                           exact norm_ xq7 (hJ7_14 (v212, gb218) _ ⟨hHeld, (rE (Kd.R_mono HO213.out (fun _ hk => hk.2))), (rE (Kd.R_mono HO_75.out (fun _ hk => hk.2))), blkA, blkA, GW218.out, GE218.out, NB194_218.out, NB218_194.out, belA⟩)
                     · skip
                       rintro v212 w66 ⟨hS_, h0_, h1_, h2_, h3_⟩
                       have n0_ : Aside0 (Kd.R (Kd.int .u8) 5 w66 w.heap.size (fun k_ => some k_ ≠ (.slice Ao43 t205.length co43 : Value).ownBlock) v212 y211) := ⟨h0_⟩; have n1_ : Aside0 (Kd.R (Kd.int .u8) 5 w66 w.heap.size (fun k_ => some k_ ≠ (v212 : Value).ownBlock) (.slice Ao43 t205.length co43) t205) := ⟨h1_⟩; have n2_ : Aside0 (w66.heap[gb194]? = some (.cells #[.int .i64 x195000_3, .int .i64 x195001_3, .slice none 0 0] 52 (0, 0))) := ⟨h2_⟩; have n3_ : Aside0 (Below w.heap.size w w66) := ⟨h3_⟩; clear HO_75; clear BK194; clear HB; clear h0_ h1_ h2_ h3_; have HO213 := n0_; have HO_75 := n1_; have BK194 := n2_; have HB := n3_; clear n0_ n1_ n2_ n3_; have hHeld : w66.cell? ⟨ad208.block, ad208.off + 2, none⟩ = some (.int .u8 (rd l0 2)) := hS_; refine norm_ (a' := ?_) ?_ ?_
                       rotate_left
                       · simp only [putAll, Act.put, sa, sb, sc]
                         rfl
                       refine two_ (i := 6) (j := 14) (Ni := some 106) (Nj := some 9) #[true, true, true, true, true, true, true, true, true, true, true, true, false, false, false, false] #[true, true, true, true, true, true, false, true, true, true, true, true, false, false, true, false] rfl rfl rfl rfl (two_of HT_.out (by kernel_rfl)) (by decide) (by decide) (fun K hK => ?_) (fun K hK => ?_)
                       · skip
                         refine goes_ Try.func126 (by kernel_rfl) rfl #[.slice A62 ((l0.take 7).drop 3).length (c0 - 3)] (by rfl) rfl rfl xq32 ?_
                         with_reducible refine (impl_numberIn.calls k3 _ _ ((l0.take 7).drop 3) t210 _ ?side1 ?side2 A57.out).mono ?_
                         (case side1 => exact cA (Kd.C_below HR209.out HB.out))
                         (case side2 => exact HC209.out)
                         rintro e w' ⟨rfl, ⟨nd, rfl⟩⟩
                         refine ⟨_, rfl, ?_⟩
                         refine hK.out _ _ (((HB.out.cell (World.block_lt_of_cell? w _ hw208_0)).trans hw208_0)) (fun hHeld => ?_)
                         clear hK K; refine norm_ (a' := ?_) ?_ ?_
                         rotate_left
                         · show Act.put _ (some 106) _ = _
                           simp only [Act.put, sa, sb, sc, i64_w, i32_w]
                           rfl
                         exact norm_ xq7 (hJ6_7 (v212) _ ⟨hHeld, (rF HO213), (rF HO_75), blkA, belA⟩)
                       · skip
                         refine box_step ?hg (N := 9) ?hd (cs := #[.int .i64 0, .int .i64 0, .slice none 0 0]) (t := 52) ?hr ?_; (case hd => rfl); (case hg => rfl); (case hr => exact xq4)
                         intro gb218 hg w67 hbox hb; have BK218 := ak hbox; have GW218 := leA (w := w) hg; have GE218 := leA (w := w) hg; have NB194_218 := neL hg BK194; have NB218_194 := neG hg BK194; replace HO_75 := ak (Kd.R_below (rF HO_75) hb); replace HO213 := ak (Kd.R_below (rF HO213) hb); replace BK194 := bB BK194 hb; replace HB := bS hb; clear hb hbox hg; refine hK.out _ _ (((HB.out.cell (World.block_lt_of_cell? w _ hw208_0)).trans hw208_0)) (fun hHeld => ?_)
                         clear hK K; refine norm_ (a' := ?_) ?_ ?_
                         rotate_left
                         · show Act.put _ (some 9) _ = _
                           simp only [Act.put, sa, sb, sc, i64_w, i32_w]
                           rfl
                         exact norm_ xq7 (hJ7_14 (v212, gb218) _ ⟨hHeld, (rF HO213), (rF HO_75), blkA, blkA, GW218.out, GE218.out, NB194_218.out, NB218_194.out, belA⟩)
                   · skip
                     rintro _ w64 ⟨hS_, h0_, h1_, h2_⟩
                     have n0_ : Aside0 (Kd.R (Kd.int .u8) 5 w64 w.heap.size (fun _ => True) (.slice Ao43 t205.length co43) t205) := ⟨h0_⟩; have n1_ : Aside0 (w64.heap[gb194]? = some (.cells #[.int .i64 x195000_3, .int .i64 x195001_3, .slice none 0 0] 52 (0, 0))) := ⟨h1_⟩; have n2_ : Aside0 (Below w.heap.size w w64) := ⟨h2_⟩; clear HO_75; clear BK194; clear HB; clear h0_ h1_ h2_; have HO_75 := n0_; have BK194 := n1_; have HB := n2_; clear n0_ n1_ n2_; have hHeld : w64.cell? ⟨ad208.block, ad208.off + 2, none⟩ = some (.int .u8 (rd l0 2)) := hS_; refine norm_ (a' := ?_) ?_ ?_
                     rotate_left
                     · simp only [putAll, Act.put, sa, sb, sc]
                       rfl
                     refine two_ (i := 7) (j := 14) (Ni := some 107) (Nj := some 9) #[true, true, true, true, true, true, true, true, true, true, true, true, false, false, false, false] #[true, true, true, true, true, true, true, false, true, true, true, true, false, false, true, false] rfl rfl rfl rfl (two_of HT_.out (by kernel_rfl)) (by decide) (by decide) (fun K hK => ?_) (fun K hK => ?_)
                     · skip
                       refine Kd.R_lit_step (Kd.int .u8) _ 5 ?hg (N := 107) ?hd (xs := ([] : List Int)) (inner := []) (ok := fun _ => True) (okp := fun _ => True) ?hr ?hp (fun _ hk => hk) trivial (Below.refl _ _) (Nat.le_refl _) (by simp) ?_; (case hd => rfl); (case hg => rfl); (case hr => exact xq4); (case hp => exact (Reps.none _ _))
                       intro v212 w65 ho66 hb hg_ hnew_; clear hg_ hnew_; (first | rw [← Ny211.out] at ho66 | (simp only [Int.reduceToNat] at ho66; rw [← Ny211.out] at ho66))
                       have HO213 := rL (Kd.R_new' ho66 (Kd.R_lt (rF HO_75))); replace HO_75 := ak (Kd.R_elder' (rF HO_75) (Kd.R_base ho66) hb); replace BK194 := bB BK194 hb; replace HB := bS hb; clear hb ho66; refine hK.out _ _ (((HB.out.cell (World.block_lt_of_cell? w _ hw208_0)).trans hw208_0)) (fun hHeld => ?_)
                       clear hK K; refine norm_ (a' := ?_) ?_ ?_
                       rotate_left
                       · show Act.put _ (some 107) _ = _
                         simp only [Act.put, sa, sb, sc, i64_w, i32_w]
                         rfl
                       exact norm_ xq7 (hJ6_7 (v212) _ ⟨hHeld, (rE (Kd.R_mono HO213.out (fun _ hk => hk.2))), (rE (Kd.R_mono HO_75.out (fun _ hk => hk.2))), blkA, belA⟩)
                     · skip
                       refine box_step ?hg (N := 9) ?hd (cs := #[.int .i64 0, .int .i64 0, .slice none 0 0]) (t := 52) ?hr ?_; (case hd => rfl); (case hg => rfl); (case hr => exact xq4)
                       intro gb218 hg w65 hbox hb; have BK218 := ak hbox; have GW218 := leA (w := w) hg; have GE218 := leA (w := w) hg; have NB194_218 := neL hg BK194; have NB218_194 := neG hg BK194; replace HO_75 := ak (Kd.R_below (rF HO_75) hb); replace BK194 := bB BK194 hb; replace HB := bS hb; clear hb hbox hg; refine hK.out _ _ (((HB.out.cell (World.block_lt_of_cell? w _ hw208_0)).trans hw208_0)) (fun hHeld => ?_)
                       clear hK K; refine norm_ (a' := ?_) ?_ ?_
                       rotate_left
                       · show Act.put _ (some 9) _ = _
                         simp only [Act.put, sa, sb, sc, i64_w, i32_w]
                         rfl
                       exact norm_ xq7 (hJ6_14 (gb218) _ ⟨hHeld, (rF HO_75), blkA, blkA, GW218.out, GE218.out, NB194_218.out, NB218_194.out, belA⟩)
                 · skip
                   rintro ⟨v212, gb218⟩ w67 ⟨hS_, h0_, h1_, h2_, h3_, h4_, h5_, h6_, h7_, h8_⟩
                   have n0_ : Aside0 (Kd.R (Kd.int .u8) 5 w67 w.heap.size (fun k_ => some k_ ≠ (.slice Ao43 t205.length co43 : Value).ownBlock) v212 y211) := ⟨h0_⟩; have n1_ : Aside0 (Kd.R (Kd.int .u8) 5 w67 w.heap.size (fun k_ => some k_ ≠ (v212 : Value).ownBlock) (.slice Ao43 t205.length co43) t205) := ⟨h1_⟩; have n2_ : Aside0 (w67.heap[gb194]? = some (.cells #[.int .i64 x195000_3, .int .i64 x195001_3, .slice none 0 0] 52 (0, 0))) := ⟨h2_⟩; have n3_ : Aside0 (w67.heap[gb218]? = some (.cells #[.int .i64 0, .int .i64 0, .slice none 0 0] 52 (0, 0))) := ⟨h3_⟩; have n4_ : Aside0 (w.heap.size ≤ gb218) := ⟨h4_⟩; have n5_ : Aside0 (w.heap.size ≤ gb218) := ⟨h5_⟩; have n6_ : Aside0 (gb194 ≠ gb218) := ⟨h6_⟩; have n7_ : Aside0 (gb218 ≠ gb194) := ⟨h7_⟩; have n8_ : Aside0 (Below w.heap.size w w67) := ⟨h8_⟩; clear HO_75; clear BK194; clear HB; clear h0_ h1_ h2_ h3_ h4_ h5_ h6_ h7_ h8_; have HO213 := n0_; have HO_75 := n1_; have BK194 := n2_; have BK218 := n3_; have GW218 := n4_; have GE218 := n5_; have NB194_218 := n6_; have NB218_194 := n7_; have HB := n8_; clear n0_ n1_ n2_ n3_ n4_ n5_ n6_ n7_ n8_; have hHeld : w67.cell? ⟨ad208.block, ad208.off + 2, none⟩ = some (.int .u8 (rd l0 2)) := hS_; refine norm_ (a' := ?_) ?_ ?_
                   rotate_left
                   · simp only [putAll, Act.put, sa, sb, sc]
                     rfl
                   refine one_ (i := 6) (N := some 106) #[true, true, true, true, true, true, true, true, true, true, true, true, false, false, true, false] rfl rfl (one_of HT_.out (by kernel_rfl)) (by decide) (fun K hK => ?_)
                   refine goes_ Try.func126 (by kernel_rfl) rfl #[.slice A62 ((l0.take 7).drop 3).length (c0 - 3)] (by rfl) rfl rfl xq32 ?_
                   with_reducible refine (impl_numberIn.calls k3 _ _ ((l0.take 7).drop 3) t210 _ ?side1 ?side2 A57.out).mono ?_
                   (case side1 => exact cA (Kd.C_below HR209.out HB.out))
                   (case side2 => exact HC209.out)
                   rintro e w' ⟨rfl, ⟨nd, rfl⟩⟩
                   refine ⟨_, rfl, ?_⟩
                   refine hK.out _ _ (((HB.out.cell (World.block_lt_of_cell? w _ hw208_0)).trans hw208_0)) (fun hHeld => ?_)
                   clear hK K; refine norm_ (a' := ?_) ?_ ?_
                   rotate_left
                   · show Act.put _ (some 106) _ = _
                     simp only [Act.put, sa, sb, sc, i64_w, i32_w]
                     rfl
                   exact norm_ xq7 (hJ6_7_14 (v212, gb218) _ ⟨hHeld, (rF HO213), (rF HO_75), blkA, blkA, GW218.out, GE218.out, NB194_218.out, NB218_194.out, belA⟩)
               · skip
                 rintro gb218 w65 ⟨hS_, h0_, h1_, h2_, h3_, h4_, h5_, h6_, h7_⟩
                 have n0_ : Aside0 (Kd.R (Kd.int .u8) 5 w65 w.heap.size (fun _ => True) (.slice Ao43 t205.length co43) t205) := ⟨h0_⟩; have n1_ : Aside0 (w65.heap[gb194]? = some (.cells #[.int .i64 x195000_3, .int .i64 x195001_3, .slice none 0 0] 52 (0, 0))) := ⟨h1_⟩; have n2_ : Aside0 (w65.heap[gb218]? = some (.cells #[.int .i64 0, .int .i64 0, .slice none 0 0] 52 (0, 0))) := ⟨h2_⟩; have n3_ : Aside0 (w.heap.size ≤ gb218) := ⟨h3_⟩; have n4_ : Aside0 (w.heap.size ≤ gb218) := ⟨h4_⟩; have n5_ : Aside0 (gb194 ≠ gb218) := ⟨h5_⟩; have n6_ : Aside0 (gb218 ≠ gb194) := ⟨h6_⟩; have n7_ : Aside0 (Below w.heap.size w w65) := ⟨h7_⟩; clear HO_75; clear BK194; clear HB; clear h0_ h1_ h2_ h3_ h4_ h5_ h6_ h7_; have HO_75 := n0_; have BK194 := n1_; have BK218 := n2_; have GW218 := n3_; have GE218 := n4_; have NB194_218 := n5_; have NB218_194 := n6_; have HB := n7_; clear n0_ n1_ n2_ n3_ n4_ n5_ n6_ n7_; have hHeld : w65.cell? ⟨ad208.block, ad208.off + 2, none⟩ = some (.int .u8 (rd l0 2)) := hS_; refine norm_ (a' := ?_) ?_ ?_
                 rotate_left
                 · simp only [putAll, Act.put, sa, sb, sc]
                   rfl
                 refine one_ (i := 7) (N := some 107) #[true, true, true, true, true, true, true, true, true, true, true, true, false, false, true, false] rfl rfl (one_of HT_.out (by kernel_rfl)) (by decide) (fun K hK => ?_)
                 refine Kd.R_lit_step (Kd.int .u8) _ 5 ?hg (N := 107) ?hd (xs := ([] : List Int)) (inner := []) (ok := fun _ => True) (okp := fun _ => True) ?hr ?hp (fun _ hk => hk) trivial (Below.refl _ _) (Nat.le_refl _) (by simp) ?_; (case hd => rfl); (case hg => rfl); (case hr => exact xq4); (case hp => exact (Reps.none _ _))
                 intro v212 w66 ho67 hb hg_ hnew_; clear hg_ hnew_; (first | rw [← Ny211.out] at ho67 | (simp only [Int.reduceToNat] at ho67; rw [← Ny211.out] at ho67))
                 have HO213 := rL (Kd.R_new' ho67 (Kd.R_lt (rF HO_75))); replace HO_75 := ak (Kd.R_elder' (rF HO_75) (Kd.R_base ho67) hb); replace BK194 := bB BK194 hb; replace BK218 := bB BK218 hb; replace HB := bS hb; clear hb ho67; refine hK.out _ _ (((HB.out.cell (World.block_lt_of_cell? w _ hw208_0)).trans hw208_0)) (fun hHeld => ?_)
                 clear hK K; refine norm_ (a' := ?_) ?_ ?_
                 rotate_left
                 · show Act.put _ (some 107) _ = _
                   simp only [Act.put, sa, sb, sc, i64_w, i32_w]
                   rfl
                 exact norm_ xq7 (hJ6_7_14 (v212, gb218) _ ⟨hHeld, (rE (Kd.R_mono HO213.out (fun _ hk => hk.2))), (rE (Kd.R_mono HO_75.out (fun _ hk => hk.2))), blkA, blkA, GW218.out, GE218.out, NB194_218.out, NB218_194.out, belA⟩)
             · skip
               rintro v212 w66 ⟨hS_, h0_, h1_, h2_, h3_⟩
               have n0_ : Aside0 (Kd.R (Kd.int .u8) 5 w66 w.heap.size (fun k_ => some k_ ≠ (.slice Ao43 t205.length co43 : Value).ownBlock) v212 y211) := ⟨h0_⟩; have n1_ : Aside0 (Kd.R (Kd.int .u8) 5 w66 w.heap.size (fun k_ => some k_ ≠ (v212 : Value).ownBlock) (.slice Ao43 t205.length co43) t205) := ⟨h1_⟩; have n2_ : Aside0 (w66.heap[gb194]? = some (.cells #[.int .i64 x195000_3, .int .i64 x195001_3, .slice none 0 0] 52 (0, 0))) := ⟨h2_⟩; have n3_ : Aside0 (Below w.heap.size w w66) := ⟨h3_⟩; clear HO_75; clear BK194; clear HB; clear h0_ h1_ h2_ h3_; have HO213 := n0_; have HO_75 := n1_; have BK194 := n2_; have HB := n3_; clear n0_ n1_ n2_ n3_; have hHeld : w66.cell? ⟨ad208.block, ad208.off + 2, none⟩ = some (.int .u8 (rd l0 2)) := hS_; refine norm_ (a' := ?_) ?_ ?_
               rotate_left
               · simp only [putAll, Act.put, sa, sb, sc]
                 rfl
               refine two_ (i := 12) (j := 14) (Ni := some 112) (Nj := some 9) #[true, true, true, true, true, true, true, true, true, true, true, true, true, false, false, false] #[true, true, true, true, true, true, true, true, true, true, true, true, false, false, true, false] rfl rfl rfl rfl (two_of HT_.out (by kernel_rfl)) (by decide) (by decide) (fun K hK => ?_) (fun K hK => ?_)
               · skip
                 refine Kd.R_append_rows_step (Kd.int .u8) (w0 := w) w.heap.size (by rfl) (.tmp 107) (.tmp 111) 22 5 (.int .u8 0) 1 rfl Try.underlying22 info5 rfl (by decide) (by omega) v212 y211 ((l0.take ((wrap64 (9 + t202)) : Int).toNat).drop 9) _ _ _ (fun k_ => some k_ ≠ (.slice Ao43 t205.length co43 : Value).ownBlock) (fun _ => False) rfl rfl ?aO ?aR (fun _ _ h => h) (fun _ h => h.elim) ?aF ?aB ?aS ?aL ?_
                 (case aR => exact xq80)
                 (case aB => exact belA)
                 (case aF => exact (fun k_ hk => Kd.fresh' (Kd.R_lt (rF HO_75)) k_ hk))
                 (case aO => exact (rF HO213))
                 (case aS => exact (below_size belA))
                 (case aL => exact xq81)
                 intro v216 w67 ho hb hg hat; rw [← Ny215.out] at ho; have HO217 := ak ho; replace HO_75 := ak (Kd.R_after (ok := (fun _ => True)) xq79 hg hat); replace BK194 := ak (blk_grown (g := gb194) (o := .cells #[.int .i64 x195000_3, .int .i64 x195001_3, .slice none 0 0] 52 (0, 0)) blkA hg (Kd.R_ne HO213.out BK194.out (by decide))); replace HB := ak hb; clear HO213; clear ho hb hg hat; obtain ⟨Ao68, co68, eo68⟩ := Kd.R_slice HO217.out; (first | subst eo68 | (injection eo68 with f1_ f2_ f3_; have f4_ := f1_.symm; have f5_ := f3_.symm; clear f1_ f2_ f3_; subst f4_; subst f5_))
                 refine hK.out _ _ (((HB.out.cell (World.block_lt_of_cell? w _ hw208_0)).trans hw208_0)) (fun hHeld => ?_)
                 clear hK K; refine norm_ (a' := ?_) ?_ ?_
                 rotate_left
                 · show Act.put _ (some 112) _ = _
                   simp only [Act.put, sa, sb, sc, i64_w, i32_w]
                   rfl
                 refine pure_ (i := 13) (N := some 113) (v := ?_) (a' := ?_) #[true, true, true, true, true, true, true, true, true, true, true, true, true, true, false, false] rfl rfl (any_of HT_.out (by kernel_rfl)) (fun _ _ _ h => h) (Or.inl ⟨by rfl, ?_⟩) ?_ ?_
                 rotate_left
                 · intro w'; go_simp
                   with_reducible rfl
                 rotate_left
                 · simp only [Act.put, sa, sb, sc, i64_w, i32_w]
                   rfl
                 exact norm_ xq7 (hJ6_7_12 (v212, .slice Ao68 y215.length co68) _ ⟨hHeld, (rF HO217), (rE (Kd.R_mono HO_75.out (fun _ hk => hk.2))), blkA, belA⟩)
               · skip
                 refine box_step ?hg (N := 9) ?hd (cs := #[.int .i64 0, .int .i64 0, .slice none 0 0]) (t := 52) ?hr ?_; (case hd => rfl); (case hg => rfl); (case hr => exact xq4)
                 intro gb218 hg w67 hbox hb; have BK218 := ak hbox; have GW218 := leA (w := w) hg; have GE218 := leA (w := w) hg; have NB194_218 := neL hg BK194; have NB218_194 := neG hg BK194; replace HO_75 := ak (Kd.R_below (rF HO_75) hb); replace HO213 := ak (Kd.R_below (rF HO213) hb); replace BK194 := bB BK194 hb; replace HB := bS hb; clear hb hbox hg; refine hK.out _ _ (((HB.out.cell (World.block_lt_of_cell? w _ hw208_0)).trans hw208_0)) (fun hHeld => ?_)
                 clear hK K; refine norm_ (a' := ?_) ?_ ?_
                 rotate_left
                 · show Act.put _ (some 9) _ = _
                   simp only [Act.put, sa, sb, sc, i64_w, i32_w]
                   rfl
                 exact norm_ xq7 (hJ6_7_14 (v212, gb218) _ ⟨hHeld, (rF HO213), (rF HO_75), blkA, blkA, GW218.out, GE218.out, NB194_218.out, NB218_194.out, belA⟩)
           · skip
             rintro ⟨v212, gb218⟩ w67 ⟨hS_, h0_, h1_, h2_, h3_, h4_, h5_, h6_, h7_, h8_⟩
             have n0_ : Aside0 (Kd.R (Kd.int .u8) 5 w67 w.heap.size (fun k_ => some k_ ≠ (.slice Ao43 t205.length co43 : Value).ownBlock) v212 y211) := ⟨h0_⟩; have n1_ : Aside0 (Kd.R (Kd.int .u8) 5 w67 w.heap.size (fun k_ => some k_ ≠ (v212 : Value).ownBlock) (.slice Ao43 t205.length co43) t205) := ⟨h1_⟩; have n2_ : Aside0 (w67.heap[gb194]? = some (.cells #[.int .i64 x195000_3, .int .i64 x195001_3, .slice none 0 0] 52 (0, 0))) := ⟨h2_⟩; have n3_ : Aside0 (w67.heap[gb218]? = some (.cells #[.int .i64 0, .int .i64 0, .slice none 0 0] 52 (0, 0))) := ⟨h3_⟩; have n4_ : Aside0 (w.heap.size ≤ gb218) := ⟨h4_⟩; have n5_ : Aside0 (w.heap.size ≤ gb218) := ⟨h5_⟩; have n6_ : Aside0 (gb194 ≠ gb218) := ⟨h6_⟩; have n7_ : Aside0 (gb218 ≠ gb194) := ⟨h7_⟩; have n8_ : Aside0 (Below w.heap.size w w67) := ⟨h8_⟩; clear HO_75; clear BK194; clear HB; clear h0_ h1_ h2_ h3_ h4_ h5_ h6_ h7_ h8_; have HO213 := n0_; have HO_75 := n1_; have BK194 := n2_; have BK218 := n3_; have GW218 := n4_; have GE218 := n5_; have NB194_218 := n6_; have NB218_194 := n7_; have HB := n8_; clear n0_ n1_ n2_ n3_ n4_ n5_ n6_ n7_ n8_; have hHeld : w67.cell? ⟨ad208.block, ad208.off + 2, none⟩ = some (.int .u8 (rd l0 2)) := hS_; refine norm_ (a' := ?_) ?_ ?_
             rotate_left
             · simp only [putAll, Act.put, sa, sb, sc]
               rfl
             refine one_ (i := 12) (N := some 112) #[true, true, true, true, true, true, true, true, true, true, true, true, true, false, true, false] rfl rfl (one_of HT_.out (by kernel_rfl)) (by decide) (fun K hK => ?_)
             refine Kd.R_append_rows_step (Kd.int .u8) (w0 := w) w.heap.size (by rfl) (.tmp 107) (.tmp 111) 22 5 (.int .u8 0) 1 rfl Try.underlying22 info5 rfl (by decide) (by omega) v212 y211 ((l0.take ((wrap64 (9 + t202)) : Int).toNat).drop 9) _ _ _ (fun k_ => some k_ ≠ (.slice Ao43 t205.length co43 : Value).ownBlock) (fun _ => False) rfl rfl ?aO ?aR (fun _ _ h => h) (fun _ h => h.elim) ?aF ?aB ?aS ?aL ?_
             (case aR => exact xq80)
             (case aB => exact belA)
             (case aF => exact (fun k_ hk => Kd.fresh' (Kd.R_lt (rF HO_75)) k_ hk))
             (case aO => exact (rF HO213))
             (case aS => exact (below_size belA))
             (case aL => exact xq81)
             intro v216 w68 ho hb hg hat; rw [← Ny215.out] at ho; have n0_ := ak (Kd.R_after (ok := (fun _ => True)) xq79 hg hat); have n1_ := ak (blk_grown (g := gb194) (o := .cells #[.int .i64 x195000_3, .int .i64 x195001_3, .slice none 0 0] 52 (0, 0)) blkA hg (Kd.R_ne HO213.out BK194.out (by decide))); have n2_ := ak (blk_grown (g := gb218) (o := .cells #[.int .i64 0, .int .i64 0, .slice none 0 0] 52 (0, 0)) blkA hg (Kd.R_ne HO213.out BK218.out (by decide))); have n3_ := ak hb; have n4_ := ak ho; clear HO_75; clear BK194; clear BK218; clear HB; clear HO213; have HO_75 := n0_; have BK194 := n1_; have BK218 := n2_; have HB := n3_; have HO217 := n4_; clear n0_ n1_ n2_ n3_ n4_; clear ho hb hg hat; obtain ⟨Ao69, co69, eo69⟩ := Kd.R_slice HO217.out; (first | subst eo69 | (injection eo69 with f1_ f2_ f3_; have f4_ := f1_.symm; have f5_ := f3_.symm; clear f1_ f2_ f3_; subst f4_; subst f5_))
             refine hK.out _ _ (((HB.out.cell (World.block_lt_of_cell? w _ hw208_0)).trans hw208_0)) (fun hHeld => ?_)
             clear hK K; refine norm_ (a' := ?_) ?_ ?_
             rotate_left
             · show Act.put _ (some 112) _ = _
               simp only [Act.put, sa, sb, sc, i64_w, i32_w]
               rfl
             refine pure_ (i := 13) (N := some 113) (v := ?_) (a' := ?_) #[true, true, true, true, true, true, true, true, true, true, true, true, true, true, true, false] rfl rfl (any_of HT_.out (by kernel_rfl)) (fun _ _ _ h => h) (Or.inl ⟨by rfl, ?_⟩) ?_ ?_
             rotate_left
             · intro w'; go_simp
               with_reducible rfl
             rotate_left
             · simp only [Act.put, sa, sb, sc, i64_w, i32_w]
               rfl
             exact norm_ xq7 (hJ6_7_12_14 (v212, .slice Ao69 y215.length co69, gb218) _ ⟨hHeld, (rF HO217), (rE (Kd.R_mono HO_75.out (fun _ hk => hk.2))), blkA, blkA, GW218.out, GE218.out, NB194_218.out, NB218_194.out, belA⟩)
         · skip
           rintro ⟨v212, v216⟩ w68 ⟨hS_, h0_, h1_, h2_, h3_⟩
           have n0_ : Aside0 (Kd.R (Kd.int .u8) 5 w68 w.heap.size (fun k_ => some k_ ≠ (.slice Ao43 t205.length co43 : Value).ownBlock) v216 y215) := ⟨h0_⟩; have n1_ : Aside0 (Kd.R (Kd.int .u8) 5 w68 w.heap.size (fun k_ => some k_ ≠ (v216 : Value).ownBlock) (.slice Ao43 t205.length co43) t205) := ⟨h1_⟩; have n2_ : Aside0 (w68.heap[gb194]? = some (.cells #[.int .i64 x195000_3, .int .i64 x195001_3, .slice none 0 0] 52 (0, 0))) := ⟨h2_⟩; have n3_ : Aside0 (Below w.heap.size w w68) := ⟨h3_⟩; clear HO_75; clear BK194; clear HB; clear h0_ h1_ h2_ h3_; have HO217 := n0_; have HO_75 := n1_; have BK194 := n2_; have HB := n3_; clear n0_ n1_ n2_ n3_; have hHeld : w68.cell? ⟨ad208.block, ad208.off + 2, none⟩ = some (.int .u8 (rd l0 2)) := hS_; obtain ⟨Ao69, co69, eo69⟩ := Kd.R_slice HO217.out; (first | subst eo69 | (injection eo69 with f1_ f2_ f3_; have f4_ := f1_.symm; have f5_ := f3_.symm; clear f1_ f2_ f3_; subst f4_; subst f5_))
           refine norm_ (a' := ?_) ?_ ?_
           rotate_left
           · simp only [putAll, Act.put, sa, sb, sc]
             rfl
           refine one_ (i := 14) (N := some 9) #[true, true, true, true, true, true, true, true, true, true, true, true, true, true, true, false] rfl rfl (one_of HT_.out (by kernel_rfl)) (by decide) (fun K hK => ?_)
           refine box_step ?hg (N := 9) ?hd (cs := #[.int .i64 0, .int .i64 0, .slice none 0 0]) (t := 52) ?hr ?_; (case hd => rfl); (case hg => rfl); (case hr => exact xq4)
           intro gb218 hg w70 hbox hb; have BK218 := ak hbox; have GW218 := leA (w := w) hg; have GE218 := leA (w := w) hg; have NB194_218 := neL hg BK194; have NB218_194 := neG hg BK194; replace HO_75 := ak (Kd.R_below (rF HO_75) hb); replace HO217 := ak (Kd.R_below (rF HO217) hb); replace BK194 := bB BK194 hb; replace HB := bS hb; clear hb hbox hg; refine hK.out _ _ (((HB.out.cell (World.block_lt_of_cell? w _ hw208_0)).trans hw208_0)) (fun hHeld => ?_)
           clear hK K; refine norm_ (a' := ?_) ?_ ?_
           rotate_left
           · show Act.put _ (some 9) _ = _
             simp only [Act.put, sa, sb, sc, i64_w, i32_w]
             rfl
           exact norm_ xq7 (hJ6_7_12_14 (v212, .slice Ao69 y215.length co69, gb218) _ ⟨hHeld, (rF HO217), (rF HO_75), blkA, blkA, GW218.out, GE218.out, NB194_218.out, NB218_194.out, belA⟩)
       rintro ⟨v212, v216, gb218⟩ w69 ⟨hS_, h0_, h1_, h2_, h3_, h4_, h5_, h6_, h7_, h8_⟩
       have n0_ : Aside0 (Kd.R (Kd.int .u8) 5 w69 w.heap.size (fun k_ => some k_ ≠ (.slice Ao43 t205.length co43 : Value).ownBlock) v216 y215) := ⟨h0_⟩; have n1_ : Aside0 (Kd.R (Kd.int .u8) 5 w69 w.heap.size (fun k_ => some k_ ≠ (v216 : Value).ownBlock) (.slice Ao43 t205.length co43) t205) := ⟨h1_⟩; have n2_ : Aside0 (w69.heap[gb194]? = some (.cells #[.int .i64 x195000_3, .int .i64 x195001_3, .slice none 0 0] 52 (0, 0))) := ⟨h2_⟩; have n3_ : Aside0 (w69.heap[gb218]? = some (.cells #[.int .i64 0, .int .i64 0, .slice none 0 0] 52 (0, 0))) := ⟨h3_⟩; have n4_ : Aside0 (w.heap.size ≤ gb218) := ⟨h4_⟩; have n5_ : Aside0 (w.heap.size ≤ gb218) := ⟨h5_⟩; have n6_ : Aside0 (gb194 ≠ gb218) := ⟨h6_⟩; have n7_ : Aside0 (gb218 ≠ gb194) := ⟨h7_⟩; have n8_ : Aside0 (Below w.heap.size w w69) := ⟨h8_⟩; clear HO_75; clear BK194; clear HB; clear h0_ h1_ h2_ h3_ h4_ h5_ h6_ h7_ h8_; have HO217 := n0_; have HO_75 := n1_; have BK194 := n2_; have BK218 := n3_; have GW218 := n4_; have GE218 := n5_; have NB194_218 := n6_; have NB218_194 := n7_; have HB := n8_; clear n0_ n1_ n2_ n3_ n4_ n5_ n6_ n7_ n8_; have hHeld : w69.cell? ⟨ad208.block, ad208.off + 2, none⟩ = some (.int .u8 (rd l0 2)) := hS_; obtain ⟨Ao70, co70, eo70⟩ := Kd.R_slice HO217.out; (first | subst eo70 | (injection eo70 with f1_ f2_ f3_; have f4_ := f1_.symm; have f5_ := f3_.symm; clear f1_ f2_ f3_; subst f4_; subst f5_))
       refine norm_ (a' := ?_) ?_ ?_
       rotate_left
       · simp only [putAll, Act.put, sa, sb, sc]
         rfl
       refine one_ (i := 15) (N := none) #[true, true, true, true, true, true, true, true, true, true, true, true, true, true, true, true] rfl rfl (one_of HT_.out (by kernel_rfl)) (by decide) (fun K hK => ?_)
       have hs71 : w69.cell? ⟨gb218, 0, none⟩ = some (.int .i64 0) := (blk_cell BK218.out 0).trans rfl; have hfs71 := blk_frozen BK218.out 0; have hns71_0 := NB194_218.out; have hms71_0 := NB218_194.out; have hs72 : w69.cell? ⟨gb218, 1, none⟩ = some (.int .i64 0) := (blk_cell BK218.out 1).trans rfl; have hfs72 := blk_frozen BK218.out 1; have hns72_0 := NB194_218.out; have hms72_0 := NB218_194.out; have hs73 : w69.cell? ⟨gb218, 2, none⟩ = some (.slice none 0 0) := (blk_cell BK218.out 2).trans rfl; have hfs73 := blk_frozen BK218.out 2; have hns73_0 := NB194_218.out; have hms73_0 := NB218_194.out; refine skip_ (w1 := ?_) (by rfl) rfl ?_ ?_
       rotate_left
       · go_simp
         rfl
       refine hK.out _ _ (((cell_far (p := ⟨gb218, _, none⟩) xq46 _).trans (((cell_far (p := ⟨gb218, _, none⟩) xq46 _).trans (((cell_far (p := ⟨gb218, _, none⟩) xq46 _).trans (hHeld))))))) (fun hHeld => ?_)
       clear hK K; refine done_ (done_of HT_.out (by kernel_rfl)) ?_
       have hnb74 := NB218_194.out; have hnc74 := NB194_218.out; obtain ⟨_, _, _, _, _, _⟩ := cel3 BK218; obtain ⟨_, _, _, _, _, _⟩ := cel3 BK194; try go_wp2
       refine bodyPost_ret (results_ctt rfl _ _ gb194 52 #[.int .i64 (wrap64 (rd l0 2)), .int .i64 t210, .slice Ao70 y215.length co70] (0, 0) _ rfl (by (with_reducible repeat (first | refine blk_drewN ?_ _ | refine blk_drew ?_ | refine blk_alloc ?_ _)); refine blk_put (cs := #[.int .i64 (wrap64 (rd l0 2)), .int .i64 t210, .slice none 0 0]) ?_ 2 _ rfl; (with_reducible repeat (first | refine blk_drewN ?_ _ | refine blk_drew ?_ | refine blk_alloc ?_ _)); refine blk_put (cs := #[.int .i64 (wrap64 (rd l0 2)), .int .i64 x195001_3, .slice none 0 0]) ?_ 1 _ rfl; (with_reducible repeat (first | refine blk_drewN ?_ _ | refine blk_drew ?_ | refine blk_alloc ?_ _)); refine blk_put (cs := #[.int .i64 x195000_3, .int .i64 x195001_3, .slice none 0 0]) ?_ 0 _ rfl; (with_reducible repeat (first | refine blk_drewN ?_ _ | refine blk_drew ?_ | refine blk_alloc ?_ _)); refine blk_far ?_ NB194_218.out _; (with_reducible repeat (first | refine blk_drewN ?_ _ | refine blk_drew ?_ | refine blk_alloc ?_ _)); refine blk_far ?_ NB194_218.out _; (with_reducible repeat (first | refine blk_drewN ?_ _ | refine blk_drew ?_ | refine blk_alloc ?_ _)); refine blk_far ?_ NB194_218.out _; (with_reducible repeat (first | refine blk_drewN ?_ _ | refine blk_drew ?_ | refine blk_alloc ?_ _)); exact BK194.out) Try.underlying52 rfl (by kernel_rfl)) rfl ?_
       exact ⟨_, xq2, by (with_reducible repeat (first | apply Kd.R_alloc | apply Kd.R_drewN | apply Kd.R_drew)); exact Kd.R_mono (Kd.R_far (p := ⟨gb194, 2, none⟩) (Kd.R_far (p := ⟨gb194, 1, none⟩) (Kd.R_far (p := ⟨gb194, 0, none⟩) (Kd.R_far (p := ⟨gb218, 2, none⟩) (Kd.R_far (p := ⟨gb218, 1, none⟩) (Kd.R_far (p := ⟨gb218, 0, none⟩) (Kd.R_types (Kd.R_types HO217.out BK218.out (by decide)) BK194.out (by decide)) (fun _ hk => hk.1.2) (.int .i64 (wrap64 (rd l0 2)))) (fun _ hk => hk.1.2) (.int .i64 t210)) (fun _ hk => hk.1.2) (.slice Ao70 y215.length co70)) (fun _ hk => hk.2) (.int .i64 (wrap64 (rd l0 2)))) (fun _ hk => hk.2) (.int .i64 t210)) (fun _ hk => hk.2) (.slice Ao70 y215.length co70)) (fun _ hk => trivial), belA⟩

end Go.Proofs.Ytogdhclomgafdaa.PFnExactFeedAll

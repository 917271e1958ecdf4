-- Written by a program of this session (the print of the kit with contracts of this session's own added)
import Derived.Test.YtogdhclomgafdaaZFEFAx2
namespace Go.Proofs.Ytogdhclomgafdaa.PFnExactFeedAll
open Go.RowKit Go.Proofs.YtogdhclomgafdaaW.PrintWords Go.Proofs.YtogdhclomgafdaaW.PrintLast Go.Proofs.YtogdhclomgafdaaW.PrintMore Go.Proofs.YtogdhclomgafdaaW.PrintPack
set_option linter.unusedVariables false
set_option linter.unusedSimpArgs false

mutual
def spec_l11Head.l0 : Nat → List Int → Int → Option (Bool)
 | 0, _, _ => none
 | k + 1, x0, x3 => if x3 < (x0.length : Int) then (spec_l11Head.j1 k x0 x3 (decide (x3 < 9))) else (spec_l11Head.j1 k x0 x3 false)
def spec_l11Head.j1 : Nat → List Int → Int → Bool → Option (Bool)
 | 0, _, _, _ => none
 | k + 1, x0, x3, x12 => if x12 = true then (if 0 ≤ x3 then (if x3 < (x0.length : Int) then (if x3 = 0 then (if (wrap64 (rd x0 x3)) = 199 then (spec_l11Head.l0 k x0 (wrap64 (x3 + 1))) else (some false)) else (if x3 = 1 then (if (wrap64 (rd x0 x3)) = 77 then (spec_l11Head.l0 k x0 (wrap64 (x3 + 1))) else (some false)) else (if x3 = 2 then (if (wrap64 (rd x0 x3)) > 99 then (some false) else (spec_l11Head.l0 k x0 (wrap64 (x3 + 1)))) else (if x3 = 3 then (if (wrap64 (rd x0 x3)) > 127 then (some false) else (spec_l11Head.l0 k x0 (wrap64 (x3 + 1)))) else (if x3 = 7 then (if (wrap64 (rd x0 x3)) > 19 then (some false) else (spec_l11Head.l0 k x0 (wrap64 (x3 + 1)))) else (if x3 = 8 then (if 7 ≤ 9 then (if 9 ≤ (x0.length : Int) then ((spec_l11Read.f k ((x0.take 9).drop 7)).bind fun t127 => (if t127 > 5000 then (some false) else (spec_l11Head.l0 k x0 (wrap64 (x3 + 1))))) else (none)) else (none)) else (spec_l11Head.l0 k x0 (wrap64 (x3 + 1))))))))) else (none)) else (none)) else (some true)
end
def spec_l11Head.f (k : Nat) (l0 : List Int) : Option (Bool) := spec_l11Head.l0 k l0 0
theorem spec_l11Head.mono_l : ∀ k, (∀ y0 y1, LeO (spec_l11Head.l0 k y0 y1) (spec_l11Head.l0 (k + 1) y0 y1)) ∧ (∀ y0 y1 y2, LeO (spec_l11Head.j1 k y0 y1 y2) (spec_l11Head.j1 (k + 1) y0 y1 y2))
 | 0 => ⟨fun _ _ r h => by simp [spec_l11Head.l0] at h, fun _ _ _ r h => by simp [spec_l11Head.j1] at h⟩
 | k + 1 => by
  obtain ⟨ih0, ih1⟩ := spec_l11Head.mono_l k; refine ⟨?_, ?_⟩
  · intro y0 y1; unfold spec_l11Head.l0; exact xq36
  · intro y0 y1 y2; unfold spec_l11Head.j1; exact xq36
theorem spec_l11Head.mono : ∀ a0 k, LeO (spec_l11Head.f k a0) (spec_l11Head.f (k + 1) a0) := by
 intro a0 k; obtain ⟨ih0, ih1⟩ := spec_l11Head.mono_l k
 unfold spec_l11Head.f
 exact xq36
set_option maxHeartbeats 8000000 in
set_option maxRecDepth 100000 in
theorem spec_l11Head.calls (k : Nat) (A0 : Option Addr) (c0 : Nat) (l0 : List Int) (r : Bool) (w : World) (hr0 : Kd.C (Kd.int .u8) w A0 l0.length l0) (hc0 : l0.length ≤ c0) (h : spec_l11Head.f k l0 = some r) :
 Calls Try.prog 124 #[.slice A0 l0.length c0] w fun e w' => e = .returned (.bool r) ∧ Drawn0 w w' := by
 have HR0 := ak hr0; have HC0 := ak hc0; clear hr0 hc0; have H : (spec_l11Head.l0 k l0 0) = some r := h; clear h; have H' := ak H; clear H; go_enter Try.func124, Try.ntmps124
 go_wp2
 go_loopg [3] k (fun kq v3 w' => ∃ (x3_1 : Int), v3 = .int .i64 x3_1 ∧ Aside0 (spec_l11Head.l0 kq l0 x3_1 = some r) ∧ Aside0 (kq ≤ k) ∧ Drawn0 w w')
 case atStart => exact ⟨(0), eqA, H', ⟨Nat.le_refl _⟩, xq1⟩
 case round =>
  clear H'; obtain ⟨x3_1, rfl, HA, HK1, ⟨m1, rfl⟩⟩ := hrel
  cases gk with
  | zero => exact absurd HA.out (by simp [spec_l11Head.l0])
  | succ k1 =>
   have H := HA.out; clear HA; simp only [spec_l11Head.l0] at H; have HC2 := ak H; clear H; go_upto_region 2 with (fail)
   go_cut [12] (fun v12 wc => ∃ (kq : Nat) (x12_1 : Bool), v12 = .bool x12_1 ∧ Aside0 (spec_l11Head.j1 kq l0 x3_1 x12_1 = some r) ∧ Aside0 (kq ≤ k1) ∧ Drawn0 w wc)
   case first =>
    have H := HC2.out; clear HC2
    by_cases c3 : x3_1 < (l0.length : Int); rotate_left
    · rw [if_neg c3] at H; have c3b0 := decide_eq_false c3; clear c3; (first | rw [c3b0] | (simp only [i64_w, i32_w]; rw [c3b0]) | skip)
      have H' := ak H; clear H; go_wp2
      go_meet
      case rel => exact ⟨_, (false), eqA, H', ⟨by have := HK1.out; first | omega | exact Nat.le_refl _⟩, xq1⟩
    rw [if_pos c3] at H; have c3b0 := decide_eq_true c3; clear c3; (first | rw [c3b0] | (simp only [i64_w, i32_w]; rw [c3b0]) | skip)
    have H' := ak H; clear H; go_wp2
    go_meet
    case rel => exact ⟨_, (decide (x3_1 < 9)), eqA, H', ⟨by have := HK1.out; first | omega | exact Nat.le_refl _⟩, xq1⟩
   case rest =>
    clear HC2; obtain ⟨kq, x12_1, rfl, HA, HJ1, ⟨mc1, rfl⟩⟩ := hcut
    cases kq with
    | zero => exact absurd HA.out (by simp [spec_l11Head.j1])
    | succ kj1 =>
     have H := HA.out; clear HA; simp only [spec_l11Head.j1] at H
     by_cases c4 : x12_1 = true; rotate_left
     · replace c4 := Bool.eq_false_iff.mpr c4; subst c4; have H1 : (some true) = some r := by rw [if_neg (show ¬ (false = true) by decide)] at H; exact H
       clear H; have H := H1; clear H1; obtain rfl := Option.some.inj H; go_wp2
       go_ret
       exact ⟨xq3, xq1⟩
     subst c4; have H1 : (if 0 ≤ x3_1 then (if x3_1 < (l0.length : Int) then (if x3_1 = 0 then (if (wrap64 (rd l0 x3_1)) = 199 then (spec_l11Head.l0 kj1 l0 (wrap64 (x3_1 + 1))) else (some false)) else (if x3_1 = 1 then (if (wrap64 (rd l0 x3_1)) = 77 then (spec_l11Head.l0 kj1 l0 (wrap64 (x3_1 + 1))) else (some false)) else (if x3_1 = 2 then (if (wrap64 (rd l0 x3_1)) > 99 then (some false) else (spec_l11Head.l0 kj1 l0 (wrap64 (x3_1 + 1)))) else (if x3_1 = 3 then (if (wrap64 (rd l0 x3_1)) > 127 then (some false) else (spec_l11Head.l0 kj1 l0 (wrap64 (x3_1 + 1)))) else (if x3_1 = 7 then (if (wrap64 (rd l0 x3_1)) > 19 then (some false) else (spec_l11Head.l0 kj1 l0 (wrap64 (x3_1 + 1)))) else (if x3_1 = 8 then (if 7 ≤ 9 then (if 9 ≤ (l0.length : Int) then ((spec_l11Read.f kj1 ((l0.take 9).drop 7)).bind fun t127 => (if t127 > 5000 then (some false) else (spec_l11Head.l0 kj1 l0 (wrap64 (x3_1 + 1))))) else (none)) else (none)) else (spec_l11Head.l0 kj1 l0 (wrap64 (x3_1 + 1))))))))) else (none)) else (none)) = some r := by rw [if_pos rfl] at H; exact H
     clear H; have H := H1; clear H1
     by_cases c5 : 0 ≤ x3_1; rotate_left
     · rw [if_neg c5] at H; exact absurd H (by simp)
     rw [if_pos c5] at H; have c5b0 := decide_eq_true c5; clear c5
     by_cases c6 : x3_1 < (l0.length : Int); rotate_left
     · rw [if_neg c6] at H; exact absurd H (by simp)
     rw [if_pos c6] at H; have c6b0 := decide_eq_true c6; clear c6
     by_cases c7 : x3_1 = 0
     · rw [if_pos c7] at H; have c7b0 : (x3_1 == 0) = true := beq_iff_eq.mpr c7; have c7b1 : (x3_1 != 0) = false := bne_eq_false_iff_eq.mpr c7; clear c7
       by_cases c8 : (wrap64 (rd l0 x3_1)) = 199; rotate_left
       · rw [if_neg c8] at H; have c8b0 : ((wrap64 (rd l0 x3_1)) == 199) = false := beq_eq_false_iff_ne.mpr c8; have c8b1 : ((wrap64 (rd l0 x3_1)) != 199) = true := bne_iff_ne.mpr c8; obtain rfl := Option.some.inj H; have p125 : 0 ≤ (x3_1 : Int) := odA; have q125 : x3_1 < (l0.length : Int) := odA; obtain ⟨ad125, e125, hx125_0⟩ := Kd.at_int HR0.out x3_1 p125 q125
         cases e125
         replace p125 := eq_true p125; replace q125 := eq_true q125; go_wp2
         go_ret
         exact ⟨xq3, xq1⟩
       rw [if_pos c8] at H; have c8b0 : ((wrap64 (rd l0 x3_1)) == 199) = true := beq_iff_eq.mpr c8; have c8b1 : ((wrap64 (rd l0 x3_1)) != 199) = false := bne_eq_false_iff_eq.mpr c8; clear c8; have H' := ak H; clear H; have p125 : 0 ≤ (x3_1 : Int) := odA; have q125 : x3_1 < (l0.length : Int) := odA; obtain ⟨ad125, e125, hx125_0⟩ := Kd.at_int HR0.out x3_1 p125 q125
       cases e125
       replace p125 := eq_true p125; replace q125 := eq_true q125; go_wp2
       go_roundg kj1
       case measure => have := HK1.out; have := HJ1.out; omega
       case rel => exact ⟨(wrap64 (x3_1 + 1)), eqA, H', ⟨xq14⟩, xq1⟩
     rw [if_neg c7] at H; have c7b0 : (x3_1 == 0) = false := beq_eq_false_iff_ne.mpr c7; have c7b1 : (x3_1 != 0) = true := bne_iff_ne.mpr c7
     by_cases c9 : x3_1 = 1
     · rw [if_pos c9] at H; have c9b0 : (x3_1 == 1) = true := beq_iff_eq.mpr c9; have c9b1 : (x3_1 != 1) = false := bne_eq_false_iff_eq.mpr c9; clear c9
       by_cases c10 : (wrap64 (rd l0 x3_1)) = 77; rotate_left
       · rw [if_neg c10] at H; have c10b0 : ((wrap64 (rd l0 x3_1)) == 77) = false := beq_eq_false_iff_ne.mpr c10; have c10b1 : ((wrap64 (rd l0 x3_1)) != 77) = true := bne_iff_ne.mpr c10; obtain rfl := Option.some.inj H; have p125 : 0 ≤ (x3_1 : Int) := odA; have q125 : x3_1 < (l0.length : Int) := odA; obtain ⟨ad125, e125, hx125_0⟩ := Kd.at_int HR0.out x3_1 p125 q125
         cases e125
         replace p125 := eq_true p125; replace q125 := eq_true q125; go_wp2
         go_ret
         exact ⟨xq3, xq1⟩
       rw [if_pos c10] at H; have c10b0 : ((wrap64 (rd l0 x3_1)) == 77) = true := beq_iff_eq.mpr c10; have c10b1 : ((wrap64 (rd l0 x3_1)) != 77) = false := bne_eq_false_iff_eq.mpr c10; clear c10; have H' := ak H; clear H; have p125 : 0 ≤ (x3_1 : Int) := odA; have q125 : x3_1 < (l0.length : Int) := odA; obtain ⟨ad125, e125, hx125_0⟩ := Kd.at_int HR0.out x3_1 p125 q125
       cases e125
       replace p125 := eq_true p125; replace q125 := eq_true q125; go_wp2
       go_roundg kj1
       case measure => have := HK1.out; have := HJ1.out; omega
       case rel => exact ⟨(wrap64 (x3_1 + 1)), eqA, H', ⟨xq14⟩, xq1⟩
     rw [if_neg c9] at H; have c9b0 : (x3_1 == 1) = false := beq_eq_false_iff_ne.mpr c9; have c9b1 : (x3_1 != 1) = true := bne_iff_ne.mpr c9
     by_cases c11 : x3_1 = 2
     · rw [if_pos c11] at H; have c11b0 : (x3_1 == 2) = true := beq_iff_eq.mpr c11; have c11b1 : (x3_1 != 2) = false := bne_eq_false_iff_eq.mpr c11; clear c11
       by_cases c12 : (wrap64 (rd l0 x3_1)) > 99
       · rw [if_pos c12] at H; have c12b0 : decide (99 < (wrap64 (rd l0 x3_1))) = true := decide_eq_true c12; have c12b0w : decide (99 < (IntKind.i64.wrap (rd l0 x3_1))) = true := by simp only [i64_w]; exact c12b0
         clear c12; obtain rfl := Option.some.inj H; have p125 : 0 ≤ (x3_1 : Int) := odA; have q125 : x3_1 < (l0.length : Int) := odA; obtain ⟨ad125, e125, hx125_0⟩ := Kd.at_int HR0.out x3_1 p125 q125
         cases e125
         replace p125 := eq_true p125; replace q125 := eq_true q125; go_wp2
         go_ret
         exact ⟨xq3, xq1⟩
       rw [if_neg c12] at H; have c12b0 : decide (99 < (wrap64 (rd l0 x3_1))) = false := decide_eq_false c12; have c12b0w : decide (99 < (IntKind.i64.wrap (rd l0 x3_1))) = false := by simp only [i64_w]; exact c12b0
       clear c12; have H' := ak H; clear H; have p125 : 0 ≤ (x3_1 : Int) := odA; have q125 : x3_1 < (l0.length : Int) := odA; obtain ⟨ad125, e125, hx125_0⟩ := Kd.at_int HR0.out x3_1 p125 q125
       cases e125
       replace p125 := eq_true p125; replace q125 := eq_true q125; go_wp2
       go_roundg kj1
       case measure => have := HK1.out; have := HJ1.out; omega
       case rel => exact ⟨(wrap64 (x3_1 + 1)), eqA, H', ⟨xq14⟩, xq1⟩
     rw [if_neg c11] at H; have c11b0 : (x3_1 == 2) = false := beq_eq_false_iff_ne.mpr c11; have c11b1 : (x3_1 != 2) = true := bne_iff_ne.mpr c11
     by_cases c13 : x3_1 = 3
     · rw [if_pos c13] at H; have c13b0 : (x3_1 == 3) = true := beq_iff_eq.mpr c13; have c13b1 : (x3_1 != 3) = false := bne_eq_false_iff_eq.mpr c13; clear c13
       by_cases c14 : (wrap64 (rd l0 x3_1)) > 127
       · rw [if_pos c14] at H; have c14b0 : decide (127 < (wrap64 (rd l0 x3_1))) = true := decide_eq_true c14; have c14b0w : decide (127 < (IntKind.i64.wrap (rd l0 x3_1))) = true := by simp only [i64_w]; exact c14b0
         clear c14; obtain rfl := Option.some.inj H; have p125 : 0 ≤ (x3_1 : Int) := odA; have q125 : x3_1 < (l0.length : Int) := odA; obtain ⟨ad125, e125, hx125_0⟩ := Kd.at_int HR0.out x3_1 p125 q125
         cases e125
         replace p125 := eq_true p125; replace q125 := eq_true q125; go_wp2
         go_ret
         exact ⟨xq3, xq1⟩
       rw [if_neg c14] at H; have c14b0 : decide (127 < (wrap64 (rd l0 x3_1))) = false := decide_eq_false c14; have c14b0w : decide (127 < (IntKind.i64.wrap (rd l0 x3_1))) = false := by simp only [i64_w]; exact c14b0
       clear c14; have H' := ak H; clear H; have p125 : 0 ≤ (x3_1 : Int) := odA; have q125 : x3_1 < (l0.length : Int) := odA; obtain ⟨ad125, e125, hx125_0⟩ := Kd.at_int HR0.out x3_1 p125 q125
       cases e125
       replace p125 := eq_true p125; replace q125 := eq_true q125; go_wp2
       go_roundg kj1
       case measure => have := HK1.out; have := HJ1.out; omega
       case rel => exact ⟨(wrap64 (x3_1 + 1)), eqA, H', ⟨xq14⟩, xq1⟩
     rw [if_neg c13] at H; have c13b0 : (x3_1 == 3) = false := beq_eq_false_iff_ne.mpr c13; have c13b1 : (x3_1 != 3) = true := bne_iff_ne.mpr c13
     by_cases c15 : x3_1 = 7
     · rw [if_pos c15] at H; have c15b0 : (x3_1 == 7) = true := beq_iff_eq.mpr c15; have c15b1 : (x3_1 != 7) = false := bne_eq_false_iff_eq.mpr c15; clear c15
       by_cases c16 : (wrap64 (rd l0 x3_1)) > 19
       · rw [if_pos c16] at H; have c16b0 : decide (19 < (wrap64 (rd l0 x3_1))) = true := decide_eq_true c16; have c16b0w : decide (19 < (IntKind.i64.wrap (rd l0 x3_1))) = true := by simp only [i64_w]; exact c16b0
         clear c16; obtain rfl := Option.some.inj H; have p125 : 0 ≤ (x3_1 : Int) := odA; have q125 : x3_1 < (l0.length : Int) := odA; obtain ⟨ad125, e125, hx125_0⟩ := Kd.at_int HR0.out x3_1 p125 q125
         cases e125
         replace p125 := eq_true p125; replace q125 := eq_true q125; go_wp2
         go_ret
         exact ⟨xq3, xq1⟩
       rw [if_neg c16] at H; have c16b0 : decide (19 < (wrap64 (rd l0 x3_1))) = false := decide_eq_false c16; have c16b0w : decide (19 < (IntKind.i64.wrap (rd l0 x3_1))) = false := by simp only [i64_w]; exact c16b0
       clear c16; have H' := ak H; clear H; have p125 : 0 ≤ (x3_1 : Int) := odA; have q125 : x3_1 < (l0.length : Int) := odA; obtain ⟨ad125, e125, hx125_0⟩ := Kd.at_int HR0.out x3_1 p125 q125
       cases e125
       replace p125 := eq_true p125; replace q125 := eq_true q125; go_wp2
       go_roundg kj1
       case measure => have := HK1.out; have := HJ1.out; omega
       case rel => exact ⟨(wrap64 (x3_1 + 1)), eqA, H', ⟨xq14⟩, xq1⟩
     rw [if_neg c15] at H; have c15b0 : (x3_1 == 7) = false := beq_eq_false_iff_ne.mpr c15; have c15b1 : (x3_1 != 7) = true := bne_iff_ne.mpr c15
     by_cases c17 : x3_1 = 8; rotate_left
     · rw [if_neg c17] at H; have c17b0 : (x3_1 == 8) = false := beq_eq_false_iff_ne.mpr c17; have c17b1 : (x3_1 != 8) = true := bne_iff_ne.mpr c17; have H' := ak H; clear H; have p125 : 0 ≤ (x3_1 : Int) := odA; have q125 : x3_1 < (l0.length : Int) := odA; obtain ⟨ad125, e125, hx125_0⟩ := Kd.at_int HR0.out x3_1 p125 q125
       cases e125
       replace p125 := eq_true p125; replace q125 := eq_true q125; go_wp2
       go_roundg kj1
       case measure => have := HK1.out; have := HJ1.out; omega
       case rel => exact ⟨(wrap64 (x3_1 + 1)), eqA, H', ⟨xq14⟩, xq1⟩
     rw [if_pos c17] at H; have c17b0 : (x3_1 == 8) = true := beq_iff_eq.mpr c17; have c17b1 : (x3_1 != 8) = false := bne_eq_false_iff_eq.mpr c17; clear c17
     by_cases c18 : 7 ≤ 9; rotate_left
     · rw [if_neg c18] at H; exact absurd H (by simp)
     rw [if_pos c18] at H; have c18b0 := eq_true c18; have c18b1 : decide (7 ≤ 9) = true := decide_eq_true c18; clear c18
     by_cases c19 : 9 ≤ (l0.length : Int); rotate_left
     · rw [if_neg c19] at H; exact absurd H (by simp)
     rw [if_pos c19] at H; have c19b0 := eq_true c19; have c19b1 : decide (9 ≤ (l0.length : Int)) = true := decide_eq_true c19; clear c19; replace H := Option.bind_eq_some_iff.mp H; obtain ⟨t127, A200, H⟩ := H; (try dsimp only at H); have A20 := ak A200; clear A200
     by_cases c21 : t127 > 5000
     · rw [if_pos c21] at H; have c21b0 : decide (5000 < t127) = true := decide_eq_true c21; clear c21; obtain rfl := Option.some.inj H; have p125 : 0 ≤ (x3_1 : Int) := odA; have q125 : x3_1 < (l0.length : Int) := odA; obtain ⟨ad125, e125, hx125_0⟩ := Kd.at_int HR0.out x3_1 p125 q125
       cases e125
       replace p125 := eq_true p125; replace q125 := eq_true q125; obtain ⟨i022, hi022, _, hsz22, _⟩ := info_parts info5; obtain ⟨A22, hcut22, hA22, hC22⟩ := print_mid_of (P := Try.prog) (Value.int .u8) 0 22 5 .i64 .i64 Try.underlying22 hi022 hsz22 (some ad125) c0 l0 7 9 (by omega) xq8 (odA) HC0.out; have HR126 := ak (Kd.C_of_reads (h1 := fun _ => rfl) (hA22 _ (Kd.reads_of_C HR0.out))); have HC126 := ak hC22; clear hA22 hC22 hi022 hsz22; go_wp2_with (first | ((with_reducible refine gate_callee (f := 125) rfl ?_); refine goesL_ (some 45) rfl rfl Try.func125 (by kernel_rfl) rfl #[.slice A22 ((l0.take 9).drop 7).length (c0 - 7)] rfl xq68 ?_; (with_reducible refine (spec_l11Read.calls kj1 _ _ ((l0.take 9).drop 7) t127 _ ?side1 ?side2 A20.out).mono ?_); (case side1 => exact cA HR126.out); (case side2 => exact HC126.out); rintro e w' ⟨rfl, ⟨nd, rfl⟩⟩; refine ⟨_, rfl, ?_⟩))
       go_ret
       exact ⟨xq3, xq1⟩
     rw [if_neg c21] at H; have c21b0 : decide (5000 < t127) = false := decide_eq_false c21; clear c21; have H' := ak H; clear H; have p125 : 0 ≤ (x3_1 : Int) := odA; have q125 : x3_1 < (l0.length : Int) := odA; obtain ⟨ad125, e125, hx125_0⟩ := Kd.at_int HR0.out x3_1 p125 q125
     cases e125
     replace p125 := eq_true p125; replace q125 := eq_true q125; obtain ⟨i023, hi023, _, hsz23, _⟩ := info_parts info5; obtain ⟨A23, hcut23, hA23, hC23⟩ := print_mid_of (P := Try.prog) (Value.int .u8) 0 22 5 .i64 .i64 Try.underlying22 hi023 hsz23 (some ad125) c0 l0 7 9 (by omega) xq8 (odA) HC0.out; have HR126 := ak (Kd.C_of_reads (h1 := fun _ => rfl) (hA23 _ (Kd.reads_of_C HR0.out))); have HC126 := ak hC23; clear hA23 hC23 hi023 hsz23; go_wp2_with (first | ((with_reducible refine gate_callee (f := 125) rfl ?_); refine goesL_ (some 45) rfl rfl Try.func125 (by kernel_rfl) rfl #[.slice A23 ((l0.take 9).drop 7).length (c0 - 7)] rfl xq68 ?_; (with_reducible refine (spec_l11Read.calls kj1 _ _ ((l0.take 9).drop 7) t127 _ ?side1 ?side2 A20.out).mono ?_); (case side1 => exact cA HR126.out); (case side2 => exact HC126.out); rintro e w' ⟨rfl, ⟨nd, rfl⟩⟩; refine ⟨_, rfl, ?_⟩))
     go_roundg kj1
     case measure => have := HK1.out; have := HJ1.out; omega
     case rel => exact ⟨(wrap64 (x3_1 + 1)), eqA, H', ⟨xq14⟩, xq1⟩

end Go.Proofs.Ytogdhclomgafdaa.PFnExactFeedAll

-- Written by a program of this session (the print of the kit with contracts of this session's own added)
import Derived.Test.YtdefnccngnilmaaZFEMx6
namespace Go.Proofs.Ytdefnccngnilmaa.PFnExactMakespan
open Go.RowKit Go.Proofs.YtdefnccngnilmaaW.PrintWords Go.Proofs.YtdefnccngnilmaaW.PrintLast Go.Proofs.YtdefnccngnilmaaW.PrintMore Go.Proofs.YtdefnccngnilmaaW.PrintPack
set_option linter.unusedVariables false
set_option linter.unusedSimpArgs false

mutual
def spec_Makespan.l0 : Nat → Int → List (List Int) → Int → Int → Int → Int → List (S76) → Option (Int)
 | 0, _, _, _, _, _, _, _ => none
 | k + 1, x1, x5, x7, x8, x174000, x174001, x174002 => if x8 < x174001 then (spec_Makespan.l1 k x1 x5 x7 x8 0 0 x174000 x174001 x174002) else (some x7)
def spec_Makespan.l1 : Nat → Int → List (List Int) → Int → Int → Int → Int → Int → Int → List (S76) → Option (Int)
 | 0, _, _, _, _, _, _, _, _, _ => none
 | k + 1, x1, x5, x7, x8, x9, x10, x174000, x174001, x174002 => if x10 < x1 then (spec_Makespan.l2 k x1 x5 x7 x8 x9 x10 0 0 x174000 x174001 x174002) else (spec_Makespan.l0 k x1 x5 (wrap64 (x7 + x9)) (wrap64 (x8 + 1)) x174000 x174001 x174002)
def spec_Makespan.l2 : Nat → Int → List (List Int) → Int → Int → Int → Int → Int → Int → Int → Int → List (S76) → Option (Int)
 | 0, _, _, _, _, _, _, _, _, _, _, _ => none
 | k + 1, x1, x5, x7, x8, x9, x10, x11, x12, x174000, x174001, x174002 => if 0 ≤ x10 then (if x10 < (x5.length : Int) then (if x12 < ((rd_L3 x5 x10).length : Int) then (if 0 ≤ x12 then (if 0 ≤ (rd (rd_L3 x5 x10) x12) then (if (rd (rd_L3 x5 x10) x12) < (x174002.length : Int) then (if ((rd_T76 x174002 (rd (rd_L3 x5 x10) x12)).f0) = x8 then ((spec_StepCost.f ((rd_T76 x174002 (rd (rd_L3 x5 x10) x12)).f0) ((rd_T76 x174002 (rd (rd_L3 x5 x10) x12)).f1) ((rd_T76 x174002 (rd (rd_L3 x5 x10) x12)).f2)).bind fun t185 => (spec_Makespan.l2 k x1 x5 x7 x8 x9 x10 (wrap64 (x11 + t185)) (wrap64 (x12 + 1)) x174000 x174001 x174002)) else (spec_Makespan.l2 k x1 x5 x7 x8 x9 x10 x11 (wrap64 (x12 + 1)) x174000 x174001 x174002)) else (none)) else (none)) else (none)) else (if x11 > x9 then (spec_Makespan.l1 k x1 x5 x7 x8 x11 (wrap64 (x10 + 1)) x174000 x174001 x174002) else (spec_Makespan.l1 k x1 x5 x7 x8 x9 (wrap64 (x10 + 1)) x174000 x174001 x174002))) else (none)) else (none)
end
def spec_Makespan.f (k : Nat) (a0_0 : Int) (a0_1 : Int) (l0_2 : List (S76)) (a1 : Int) : Option (Int) := (spec_Deal.f k a0_0 a0_1 l0_2 a1).bind fun bt174 => (if bt174.2 = true then (spec_Makespan.l0 k a1 bt174.1 0 0 a0_0 a0_1 l0_2) else (some (-1)))
theorem spec_Makespan.mono_l : ∀ k, (∀ y0 y1 y2 y3 y4 y5 y6, LeO (spec_Makespan.l0 k y0 y1 y2 y3 y4 y5 y6) (spec_Makespan.l0 (k + 1) y0 y1 y2 y3 y4 y5 y6)) ∧ (∀ y0 y1 y2 y3 y4 y5 y6 y7 y8, LeO (spec_Makespan.l1 k y0 y1 y2 y3 y4 y5 y6 y7 y8) (spec_Makespan.l1 (k + 1) y0 y1 y2 y3 y4 y5 y6 y7 y8)) ∧ (∀ y0 y1 y2 y3 y4 y5 y6 y7 y8 y9 y10, LeO (spec_Makespan.l2 k y0 y1 y2 y3 y4 y5 y6 y7 y8 y9 y10) (spec_Makespan.l2 (k + 1) y0 y1 y2 y3 y4 y5 y6 y7 y8 y9 y10))
 | 0 => ⟨fun _ _ _ _ _ _ _ r h => by simp [spec_Makespan.l0] at h, fun _ _ _ _ _ _ _ _ _ r h => by simp [spec_Makespan.l1] at h, fun _ _ _ _ _ _ _ _ _ _ _ r h => by simp [spec_Makespan.l2] at h⟩
 | k + 1 => by
  obtain ⟨ih0, ih1, ih2⟩ := spec_Makespan.mono_l k; refine ⟨?_, ?_, ?_⟩
  · intro y0 y1 y2 y3 y4 y5 y6; unfold spec_Makespan.l0; exact xq27
  · intro y0 y1 y2 y3 y4 y5 y6 y7 y8; unfold spec_Makespan.l1; exact xq27
  · intro y0 y1 y2 y3 y4 y5 y6 y7 y8 y9 y10; unfold spec_Makespan.l2; exact xq27
theorem spec_Makespan.mono : ∀ a0 a1 a2 a3 k, LeO (spec_Makespan.f k a0 a1 a2 a3) (spec_Makespan.f (k + 1) a0 a1 a2 a3) := by
 intro a0 a1 a2 a3 k; obtain ⟨ih0, ih1, ih2⟩ := spec_Makespan.mono_l k
 unfold spec_Makespan.f
 exact xq27
def spec_Makespan.T16 : Bool × List (List Nat × List Nat) := (true, [([], []), ([0], [0]), ([], []), ([], []), ([2, 3], [2, 3]), ([4], [4]), ([], []), ([5, 6], [5, 6]), ([7], [7]), ([1, 8], [1, 8]), ([9], [9]), ([10], [10]), ([], []), ([11, 12], [11, 12])])
def spec_Makespan.B16 : List Nat := [0, 1, 0, 0, 12, 28, 0, 124, 252, 511, 1023, 2047, 0, 8191]
theorem spec_Makespan.tab16 : rtab .any (opsOf Try.f46 16) = spec_Makespan.T16 := by kernel_rfl
theorem spec_Makespan.bits16 : waitsOk spec_Makespan.T16.2 spec_Makespan.B16 = true := by kernel_rfl
def spec_Makespan.T17 : Bool × List (List Nat × List Nat) := (true, [([], []), ([], []), ([1], [1]), ([], []), ([], []), ([3, 4], [3, 4]), ([5], [5]), ([], []), ([6, 7], [6, 7]), ([8], [8]), ([2, 9], [2, 9]), ([10], [10]), ([11], [11]), ([0, 12], [0, 12]), ([13, 12, 0, 1, 2, 3, 4, 5, 6, 7, 8, 9, 10, 11, 12, 13], [0, 13])])
def spec_Makespan.B17 : List Nat := [0, 0, 2, 0, 0, 24, 56, 0, 248, 504, 1022, 2046, 4094, 8191, 16383]
theorem spec_Makespan.tab17 : rtab .any (opsOf Try.f46 17) = spec_Makespan.T17 := by kernel_rfl
theorem spec_Makespan.bits17 : waitsOk spec_Makespan.T17.2 spec_Makespan.B17 = true := by kernel_rfl
set_option maxHeartbeats 8000000 in
set_option maxRecDepth 100000 in
theorem spec_Makespan.calls (k : Nat) (a0_0 : Int) (a0_1 : Int) (A0_2 : Option Addr) (c0_2 : Nat) (l0_2 : List (S76)) (a1 : Int) (r : Int) (w : World) (hr0_2 : Kd.C k76 w A0_2 l0_2.length l0_2) (hc0_2 : l0_2.length ≤ c0_2) (h : spec_Makespan.f k a0_0 a0_1 l0_2 a1 = some r) :
 Calls Try.prog 46 #[.agg #[.int .i64 a0_0, .int .i64 a0_1, .slice A0_2 l0_2.length c0_2], .int .i64 a1] w fun e w' => e = .returned (.int .i64 r) ∧ Below w.heap.size w w' := by
 have hu28 := Try.underlying28; have hu76 := Try.underlying76; have HR0_2 := ak hr0_2; have HC0_2 := ak hc0_2; clear hr0_2 hc0_2; have HB := ak (Below.refl w.heap.size w); have H : ((spec_Deal.f k a0_0 a0_1 l0_2 a1).bind fun bt174 => (if bt174.2 = true then (spec_Makespan.l0 k a1 bt174.1 0 0 a0_0 a0_1 l0_2) else (some (-1)))) = some r := h; clear h; replace H := Option.bind_eq_some_iff.mp H; obtain ⟨⟨t174, t177⟩, A30, H⟩ := H; (try dsimp only at H); have A3 := ak A30; clear A30
 by_cases c4 : t177 = true; rotate_left
 · replace c4 := Bool.eq_false_iff.mpr c4; subst c4; have H1 : (some (-1)) = some r := by rw [if_neg (show ¬ (false = true) by decide)] at H; exact H
   clear H; have H := H1; clear H1; obtain rfl := Option.some.inj H; go_enter Try.func46, Try.ntmps46
   go_wp2_with (first | ((with_reducible refine gate_dst (N := 2) rfl ?_); refine boxA 2 #[.int .i64 a0_0, .int .i64 a0_1, .slice A0_2 l0_2.length c0_2] 28 ?_; intro gb173 hg w29 hbox hb; have BK173 := ak hbox; have GW173 := leA (w := w) hg; have GE173 := leA (w := w) hg; replace HB := bS hb; clear hb hbox hg; obtain ⟨_, _, _, _, _, _⟩ := cel3 BK173) | ((with_reducible refine gate_callee (f := 93) rfl ?_); refine goB 16 Try.func93 #[.agg #[.int .i64 a0_0, .int .i64 a0_1, .slice A0_2 l0_2.length c0_2], .int .i64 a1] rfl ?_; (with_reducible refine (spec_Deal.calls k a0_0 a0_1 _ _ l0_2 a1 t174 false _ ?side1 ?side2 A3.out).mono ?_); (case side1 => exact cA (Kd.C_below HR0_2.out HB.out)); (case side2 => exact HC0_2.out); rintro e w31 ⟨v175, rfl, ho0, hb⟩; refine ⟨_, rfl, ?_⟩; have HO176 := sL ho0; replace BK173 := bB BK173 hb; replace HB := bS hb; (try clear hb ho0)))
   go_ret
   exact ⟨xq1, belA⟩
 subst c4; have H1 : (spec_Makespan.l0 k a1 t174 0 0 a0_0 a0_1 l0_2) = some r := by rw [if_pos rfl] at H; exact H
 clear H; have H := H1; clear H1; have H' := ak H; clear H; go_enter Try.func46, Try.ntmps46
 go_wp2_with (first | ((with_reducible refine gate_dst (N := 2) rfl ?_); refine boxA 2 #[.int .i64 a0_0, .int .i64 a0_1, .slice A0_2 l0_2.length c0_2] 28 ?_; intro gb173 hg w5 hbox hb; have BK173 := ak hbox; have GW173 := leA (w := w) hg; have GE173 := leA (w := w) hg; replace HB := bS hb; clear hb hbox hg; obtain ⟨_, _, _, _, _, _⟩ := cel3 BK173) | ((with_reducible refine gate_callee (f := 93) rfl ?_); refine goB 16 Try.func93 #[.agg #[.int .i64 a0_0, .int .i64 a0_1, .slice A0_2 l0_2.length c0_2], .int .i64 a1] rfl ?_; (with_reducible refine (spec_Deal.calls k a0_0 a0_1 _ _ l0_2 a1 t174 true _ ?side1 ?side2 A3.out).mono ?_); (case side1 => exact cA (Kd.C_below HR0_2.out HB.out)); (case side2 => exact HC0_2.out); rintro e w7 ⟨v175, rfl, ho0, hb⟩; refine ⟨_, rfl, ?_⟩; have HO176 := sL ho0; replace BK173 := bB BK173 hb; replace HB := bS hb; (try clear hb ho0)))
 go_loopg [7, 8] k (fun kq v7 v8 w' => ∃ (x7_1 : Int) (x8_1 : Int), v7 = .int .i64 x7_1 ∧ v8 = .int .i64 x8_1 ∧ Aside0 (spec_Makespan.l0 kq a1 t174 x7_1 x8_1 a0_0 a0_1 l0_2 = some r) ∧ Aside0 (kq ≤ k) ∧ Aside0 (Kd.S (Kd.slice 3 (Kd.int .i64)) 37 w' w.heap.size (fun _ => True) v175 t174) ∧ Aside0 (w'.heap[gb173]? = some (.cells #[.int .i64 a0_0, .int .i64 a0_1, (.slice A0_2 l0_2.length c0_2)] 28 (0, 0))) ∧ Aside0 (Below w.heap.size w w'))
 case atStart => exact ⟨(0), (0), eqA, eqA, H', ⟨Nat.le_refl _⟩, ⟨sA HO176⟩, ⟨blkA⟩, ⟨belA⟩⟩
 case round =>
  clear H'; obtain ⟨x7_1, x8_1, rfl, rfl, HA, HK1, HO_5, BK173, HB⟩ := hrel
  cases gk with
  | zero => exact absurd HA.out (by simp [spec_Makespan.l0])
  | succ k1 =>
   have H := HA.out; clear HA; simp only [spec_Makespan.l0] at H
   by_cases c8 : x8_1 < a0_1; rotate_left
   · rw [if_neg c8] at H; have c8b0 := decide_eq_false c8; clear c8; obtain rfl := Option.some.inj H; obtain ⟨_, _, _, _, _, _⟩ := cel3 BK173; go_wp2
     go_ret
     exact ⟨xq1, belA⟩
   rw [if_pos c8] at H; have c8b0 := decide_eq_true c8; clear c8; have H' := ak H; clear H; obtain ⟨_, _, _, _, _, _⟩ := cel3 BK173; go_wp2
   go_loopg [9, 10] k1 (fun kq v9 v10 w' => ∃ (x9_2 : Int) (x10_2 : Int), v9 = .int .i64 x9_2 ∧ v10 = .int .i64 x10_2 ∧ Aside0 (spec_Makespan.l1 kq a1 t174 x7_1 x8_1 x9_2 x10_2 a0_0 a0_1 l0_2 = some r) ∧ Aside0 (kq ≤ k1) ∧ Aside0 (Kd.S (Kd.slice 3 (Kd.int .i64)) 37 w' w.heap.size (fun _ => True) v175 t174) ∧ Aside0 (w'.heap[gb173]? = some (.cells #[.int .i64 a0_0, .int .i64 a0_1, (.slice A0_2 l0_2.length c0_2)] 28 (0, 0))) ∧ Aside0 (Below w.heap.size w w'))
   case atStart => exact ⟨(0), (0), eqA, eqA, H', ⟨Nat.le_refl _⟩, ⟨sA HO_5⟩, ⟨blkA⟩, ⟨belA⟩⟩
   case round =>
    clear H'; obtain ⟨x9_2, x10_2, rfl, rfl, HA, HK2, HO_5, BK173, HB⟩ := hrel
    cases gk with
    | zero => exact absurd HA.out (by simp [spec_Makespan.l1])
    | succ k2 =>
     have H := HA.out; clear HA; simp only [spec_Makespan.l1] at H
     by_cases c10 : x10_2 < a1; rotate_left
     · rw [if_neg c10] at H; have c10b0 := decide_eq_false c10; clear c10; have H' := ak H; clear H; go_wp2
       go_roundg k2
       case measure => have := HK1.out; have := HK2.out; omega
       case rel => exact ⟨(wrap64 (x7_1 + x9_2)), (wrap64 (x8_1 + 1)), eqA, eqA, H', ⟨by have := HK1.out; have := HK2.out; omega⟩, ⟨sA HO_5⟩, ⟨blkA⟩, ⟨belA⟩⟩
     rw [if_pos c10] at H; have c10b0 := decide_eq_true c10; clear c10; have H' := ak H; clear H; go_wp2
     go_loopg [11, 12] k2 (fun kq v11 v12 w' => ∃ (x11_3 : Int) (x12_3 : Int), v11 = .int .i64 x11_3 ∧ v12 = .int .i64 x12_3 ∧ Aside0 (spec_Makespan.l2 kq a1 t174 x7_1 x8_1 x9_2 x10_2 x11_3 x12_3 a0_0 a0_1 l0_2 = some r) ∧ Aside0 (kq ≤ k2) ∧ Aside0 (Kd.S (Kd.slice 3 (Kd.int .i64)) 37 w' w.heap.size (fun _ => True) v175 t174) ∧ Aside0 (w'.heap[gb173]? = some (.cells #[.int .i64 a0_0, .int .i64 a0_1, (.slice A0_2 l0_2.length c0_2)] 28 (0, 0))) ∧ Aside0 (Below w.heap.size w w'))
     case atStart => exact ⟨(0), (0), eqA, eqA, H', ⟨Nat.le_refl _⟩, ⟨sA HO_5⟩, ⟨blkA⟩, ⟨belA⟩⟩
     case round =>
      clear H'; obtain ⟨x11_3, x12_3, rfl, rfl, HA, HK3, HO_5, BK173, HB⟩ := hrel
      cases gk with
      | zero => exact absurd HA.out (by simp [spec_Makespan.l2])
      | succ k3 =>
       have H := HA.out; clear HA; simp only [spec_Makespan.l2] at H
       by_cases c11 : 0 ≤ x10_2; rotate_left
       · rw [if_neg c11] at H; exact absurd H (by simp)
       rw [if_pos c11] at H; have c11b0 := decide_eq_true c11; clear c11
       by_cases c12 : x10_2 < (t174.length : Int); rotate_left
       · rw [if_neg c12] at H; exact absurd H (by simp)
       rw [if_pos c12] at H; have c12b0 := decide_eq_true c12; clear c12
       by_cases c13 : x12_3 < ((rd_L3 t174 x10_2).length : Int); rotate_left
       · rw [if_neg c13] at H; have c13b0 := decide_eq_false c13; clear c13
         by_cases c25 : x11_3 > x9_2
         · rw [if_pos c25] at H; have c25b0 : decide (x9_2 < x11_3) = true := decide_eq_true c25; clear c25; have H' := ak H; clear H; obtain ⟨Ao26, co26, eo26⟩ := Kd.S_slice HO_5.out; subst eo26; have p178 : 0 ≤ (x10_2 : Int) := odA; have q178 : x10_2 < (t174.length : Int) := odA; obtain ⟨ad178, A178_0, c178_0, e178, hx178_0, hl178_0, hi178_0⟩ := at_L3 (Kd.S_reads' HO_5.out).2.2 x10_2 p178 q178
           cases e178
           obtain ⟨ce178, hce178, hMe178, hcc178⟩ := Kd.S_get HO_5.out [] x10_2 p178 xq28; obtain ⟨ve178_0, rfl, ge178_0⟩ := hMe178; have hv178_0 := hcc178 0 _ rfl; rw [Nat.add_zero, show ((Kd.slice 3 (Kd.int .i64))).sz = 1 from rfl, Nat.mul_one] at hv178_0; replace hv178_0 := Option.some.inj (hv178_0.symm.trans hx178_0); rw [hv178_0] at ge178_0; have HL178_0 := ak (show Kd.R (Kd.int .i64) 3 _ _ _ _ (rd_L3 t174 x10_2) from ge178_0); clear hv178_0 ge178_0; clear hcc178 hce178; have HR178_0 := ak hi178_0; have HC178_0 := ak hl178_0; clear hi178_0 hl178_0; replace p178 := eq_true p178; replace q178 := eq_true q178; go_wp2
           go_roundg k3
           case measure => have := HK1.out; have := HK2.out; have := HK3.out; omega
           case rel => exact ⟨(x11_3), (wrap64 (x10_2 + 1)), eqA, eqA, H', ⟨xq29⟩, ⟨sA HO_5⟩, ⟨blkA⟩, ⟨belA⟩⟩
         rw [if_neg c25] at H; have c25b0 : decide (x9_2 < x11_3) = false := decide_eq_false c25; clear c25; have H' := ak H; clear H; obtain ⟨Ao27, co27, eo27⟩ := Kd.S_slice HO_5.out; subst eo27; have p178 : 0 ≤ (x10_2 : Int) := odA; have q178 : x10_2 < (t174.length : Int) := odA; obtain ⟨ad178, A178_0, c178_0, e178, hx178_0, hl178_0, hi178_0⟩ := at_L3 (Kd.S_reads' HO_5.out).2.2 x10_2 p178 q178
         cases e178
         obtain ⟨ce178, hce178, hMe178, hcc178⟩ := Kd.S_get HO_5.out [] x10_2 p178 xq28; obtain ⟨ve178_0, rfl, ge178_0⟩ := hMe178; have hv178_0 := hcc178 0 _ rfl; rw [Nat.add_zero, show ((Kd.slice 3 (Kd.int .i64))).sz = 1 from rfl, Nat.mul_one] at hv178_0; replace hv178_0 := Option.some.inj (hv178_0.symm.trans hx178_0); rw [hv178_0] at ge178_0; have HL178_0 := ak (show Kd.R (Kd.int .i64) 3 _ _ _ _ (rd_L3 t174 x10_2) from ge178_0); clear hv178_0 ge178_0; clear hcc178 hce178; have HR178_0 := ak hi178_0; have HC178_0 := ak hl178_0; clear hi178_0 hl178_0; replace p178 := eq_true p178; replace q178 := eq_true q178; go_wp2
         go_roundg k3
         case measure => have := HK1.out; have := HK2.out; have := HK3.out; omega
         case rel => exact ⟨(x9_2), (wrap64 (x10_2 + 1)), eqA, eqA, H', ⟨xq29⟩, ⟨sA HO_5⟩, ⟨blkA⟩, ⟨belA⟩⟩
       rw [if_pos c13] at H; have c13b0 := decide_eq_true c13; clear c13
       by_cases c14 : 0 ≤ x12_3; rotate_left
       · rw [if_neg c14] at H; exact absurd H (by simp)
       rw [if_pos c14] at H; have c14b0 := decide_eq_true c14; clear c14
       by_cases c15 : 0 ≤ (rd (rd_L3 t174 x10_2) x12_3); rotate_left
       · rw [if_neg c15] at H; exact absurd H (by simp)
       rw [if_pos c15] at H; have c15b0 := decide_eq_true c15; clear c15
       by_cases c16 : (rd (rd_L3 t174 x10_2) x12_3) < (l0_2.length : Int); rotate_left
       · rw [if_neg c16] at H; exact absurd H (by simp)
       rw [if_pos c16] at H; have c16b0 := decide_eq_true c16; clear c16
       by_cases c17 : ((rd_T76 l0_2 (rd (rd_L3 t174 x10_2) x12_3)).f0) = x8_1; rotate_left
       · rw [if_neg c17] at H; have c17b0 : (((rd_T76 l0_2 (rd (rd_L3 t174 x10_2) x12_3)).f0) == x8_1) = false := beq_eq_false_iff_ne.mpr c17; have c17b1 : (((rd_T76 l0_2 (rd (rd_L3 t174 x10_2) x12_3)).f0) != x8_1) = true := bne_iff_ne.mpr c17; have H' := ak H; clear H; obtain ⟨Ao23, co23, eo23⟩ := Kd.S_slice HO_5.out; subst eo23; have p178 : 0 ≤ (x10_2 : Int) := odA; have q178 : x10_2 < (t174.length : Int) := odA; obtain ⟨ad178, A178_0, c178_0, e178, hx178_0, hl178_0, hi178_0⟩ := at_L3 (Kd.S_reads' HO_5.out).2.2 x10_2 p178 q178
         cases e178
         obtain ⟨ce178, hce178, hMe178, hcc178⟩ := Kd.S_get HO_5.out [] x10_2 p178 xq28; obtain ⟨ve178_0, rfl, ge178_0⟩ := hMe178; have hv178_0 := hcc178 0 _ rfl; rw [Nat.add_zero, show ((Kd.slice 3 (Kd.int .i64))).sz = 1 from rfl, Nat.mul_one] at hv178_0; replace hv178_0 := Option.some.inj (hv178_0.symm.trans hx178_0); rw [hv178_0] at ge178_0; have HL178_0 := ak (show Kd.R (Kd.int .i64) 3 _ _ _ _ (rd_L3 t174 x10_2) from ge178_0); clear hv178_0 ge178_0; clear hcc178 hce178; have HR178_0 := ak hi178_0; have HC178_0 := ak hl178_0; clear hi178_0 hl178_0; replace p178 := eq_true p178; replace q178 := eq_true q178; try go_wp2
         replace HO_5 := ak (Kd.S_drew HO_5.out); replace HL178_0 := ak (Kd.R_drew HL178_0.out); replace BK173 := ak (blk_drew BK173.out); replace HR178_0 := ak (Kd.C_drew HR178_0.out); replace HB := ak (below_drew1 HB.out); have p179 : 0 ≤ (x10_2 : Int) := odA; have q179 : x10_2 < (t174.length : Int) := odA; obtain ⟨ad179, A179_0, c179_0, e179, hx179_0, hl179_0, hi179_0⟩ := at_L3 (Kd.S_reads' HO_5.out).2.2 x10_2 p179 q179; obtain rfl : ad178 = ad179 := (by injection e179); obtain ⟨ce179, hce179, hMe179, hcc179⟩ := Kd.S_get HO_5.out [] x10_2 p179 xq60; obtain ⟨ve179_0, rfl, ge179_0⟩ := hMe179; have hv179_0 := hcc179 0 _ rfl; rw [Nat.add_zero, show ((Kd.slice 3 (Kd.int .i64))).sz = 1 from rfl, Nat.mul_one] at hv179_0; replace hv179_0 := Option.some.inj (hv179_0.symm.trans hx179_0); rw [hv179_0] at ge179_0; have HL179_0 := ak (show Kd.R (Kd.int .i64) 3 _ _ _ _ (rd_L3 t174 x10_2) from ge179_0); clear hv179_0 ge179_0; clear hcc179 hce179; have HR179_0 := ak hi179_0; have HC179_0 := ak hl179_0; clear hi179_0 hl179_0; replace p179 := eq_true p179; replace q179 := eq_true q179; have p180 : 0 ≤ (x12_3 : Int) := odA; have q180 : x12_3 < ((rd_L3 t174 x10_2).length : Int) := odA; obtain ⟨ad180, e180, hx180_0⟩ := Kd.at_int xq37 x12_3 p180 q180
         cases e180
         replace p180 := eq_true p180; replace q180 := eq_true q180; have p181 : 0 ≤ ((rd (rd_L3 t174 x10_2) x12_3) : Int) := odA; have q181 : (rd (rd_L3 t174 x10_2) x12_3) < (l0_2.length : Int) := odA; obtain ⟨ad181, e181, hx181_0, hx181_1, hx181_2⟩ := at_T76 HR0_2.out (rd (rd_L3 t174 x10_2) x12_3) p181 q181; have hw181_2 := hx181_2; have hw181_1 := hx181_1; have hw181_0 := hx181_0
         cases e181
         try replace hx181_0 := cB HB hx181_0
         try replace hx181_1 := cB HB hx181_1
         try replace hx181_2 := cB HB hx181_2
         replace p181 := eq_true p181; replace q181 := eq_true q181; refine start_ (n := 14) (S := fun w' => w'.cell? ⟨gb173, 0, none⟩ = some (.int .i64 a0_0) ∧ w'.cell? ⟨gb173, 1, none⟩ = some (.int .i64 a0_1) ∧ w'.cell? ⟨gb173, 2, none⟩ = some (.slice (some ad181) l0_2.length c0_2) ∧ w'.cell? (ad178.add (x10_2).toNat) = some (.slice (some ad180) (rd_L3 t174 x10_2).length c179_0) ∧ w'.cell? (ad180.add (x12_3).toNat) = some (.int .i64 (rd (rd_L3 t174 x10_2) x12_3)) ∧ w'.cell? (ad181.add (((rd (rd_L3 t174 x10_2) x12_3)).toNat * 3)) = some (.int .i64 ((rd_T76 l0_2 (rd (rd_L3 t174 x10_2) x12_3)).f0)) ∧ w'.cell? ⟨(ad181.add (((rd (rd_L3 t174 x10_2) x12_3)).toNat * 3)).block, (ad181.add (((rd (rd_L3 t174 x10_2) x12_3)).toNat * 3)).off + 1, none⟩ = some (.int .i64 ((rd_T76 l0_2 (rd (rd_L3 t174 x10_2) x12_3)).f1)) ∧ w'.cell? ⟨(ad181.add (((rd (rd_L3 t174 x10_2) x12_3)).toNat * 3)).block, (ad181.add (((rd (rd_L3 t174 x10_2) x12_3)).toNat * 3)).off + 2, none⟩ = some (.int .i64 ((rd_T76 l0_2 (rd (rd_L3 t174 x10_2) x12_3)).f2))) (ds := []) #[false, false, false, false, false, false, false, false, false, false, false, false, false, false] (by kernel_rfl) rfl rfl ⟨(blk_cell BK173.out 0).trans rfl, (blk_cell BK173.out 1).trans rfl, (blk_cell BK173.out 2).trans rfl, hx179_0, hx180_0, ((HB.out.cell (World.block_lt_of_cell? w _ hw181_0)).trans hw181_0), ((HB.out.cell (World.block_lt_of_cell? w _ hw181_1)).trans hw181_1), ((HB.out.cell (World.block_lt_of_cell? w _ hw181_2)).trans hw181_2)⟩ (fun hHeld => ?_); refine with_tabW spec_Makespan.tab16 spec_Makespan.bits16 (fun HT_ HW_ => ?_)
         generalize wr.drew = w24 at HO_5 HL178_0 BK173 HR178_0 HB HL179_0 HR179_0 hx179_0 hx180_0 hx181_0 hx181_1 hx181_2 hHeld ⊢
         refine pure_ (i := 0) (N := some 41) (v := ?_) (a' := ?_) #[true, false, false, false, false, false, false, false, false, false, false, false, false, false] rfl rfl (any_of HT_.out (by kernel_rfl)) (fun _ _ _ h => h) (Or.inl ⟨by rfl, ?_⟩) ?_ ?_
         rotate_left
         · intro w'; go_simp
           with_reducible rfl
         rotate_left
         · simp only [Act.put, sa, sb, sc, i64_w, i32_w]
           rfl
         refine pure_ (i := 2) (N := some 43) (v := ?_) (a' := ?_) #[true, false, true, false, false, false, false, false, false, false, false, false, false, false] rfl rfl (any_of HT_.out (by kernel_rfl)) (fun _ _ _ h => h) (Or.inl ⟨by rfl, ?_⟩) ?_ ?_
         rotate_left
         · intro w'; go_simp
           with_reducible rfl
         rotate_left
         · simp only [Act.put, sa, sb, sc, i64_w, i32_w]
           rfl
         refine pure_ (i := 3) (N := some 44) (v := ?_) (a' := ?_) #[true, false, true, true, false, false, false, false, false, false, false, false, false, false] rfl rfl (any_of HT_.out (by kernel_rfl)) (fun _ _ _ h => h) (Or.inl ⟨by rfl, ?_⟩) ?_ ?_
         rotate_left
         · intro w'; go_simp
           with_reducible rfl
         rotate_left
         · simp only [Act.put, sa, sb, sc, i64_w, i32_w]
           rfl
         refine pure_ (i := 4) (N := some 45) (v := ?_) (a' := ?_) #[true, false, true, true, true, false, false, false, false, false, false, false, false, false] rfl rfl (any_of HT_.out (by kernel_rfl)) (fun _ _ _ h => h) (Or.inl ⟨by rfl, ?_⟩) ?_ ?_
         rotate_left
         · intro w'; go_simp
           with_reducible rfl
         rotate_left
         · simp only [Act.put, sa, sb, sc, i64_w, i32_w]
           rfl
         refine pure_ (i := 6) (N := some 47) (v := ?_) (a' := ?_) #[true, false, true, true, true, false, true, false, false, false, false, false, false, false] rfl rfl (any_of HT_.out (by kernel_rfl)) (fun _ _ _ h => h) (Or.inl ⟨by rfl, ?_⟩) ?_ ?_
         rotate_left
         · intro w'; go_simp
           with_reducible rfl
         rotate_left
         · simp only [Act.put, sa, sb, sc, i64_w, i32_w]
           rfl
         refine pure_ (i := 12) (N := some 53) (v := ?_) (a' := ?_) #[true, false, true, true, true, false, true, false, false, false, false, false, true, false] rfl rfl (any_of HT_.out (by kernel_rfl)) (fun _ _ _ h => h) (Or.inl ⟨by rfl, ?_⟩) ?_ ?_
         rotate_left
         · intro w'; go_simp
           with_reducible rfl
         rotate_left
         · simp only [Act.put, sa, sb, sc, i64_w, i32_w]
           rfl
         refine take_ (i := 1) (N := some 42) (v := ?_) (a' := ?_) #[true, true, true, true, true, false, true, false, false, false, false, false, true, false] rfl rfl (take_ofW HT_.out HW_.out (by kernel_rfl)) (fun _ _ _ h => h) (Or.inl ⟨by rfl, ?_⟩) hHeld ?_ ?_
         rotate_left
         · rintro w' ⟨s0, s1, s2, s3, s4, s5, s6, s7⟩
           go_simp
           with_reducible rfl
         rotate_left
         · simp only [Act.put, sa, sb, sc, i64_w, i32_w]
           rfl
         refine take_ (i := 5) (N := some 46) (v := ?_) (a' := ?_) #[true, true, true, true, true, true, true, false, false, false, false, false, true, false] rfl rfl (take_ofW HT_.out HW_.out (by kernel_rfl)) (fun _ _ _ h => h) (Or.inl ⟨by rfl, ?_⟩) hHeld ?_ ?_
         rotate_left
         · rintro w' ⟨s0, s1, s2, s3, s4, s5, s6, s7⟩
           go_simp
           with_reducible rfl
         rotate_left
         · simp only [Act.put, sa, sb, sc, i64_w, i32_w]
           rfl
         refine pure_ (i := 7) (N := some 48) (v := ?_) (a' := ?_) #[true, true, true, true, true, true, true, true, false, false, false, false, true, false] rfl rfl (any_of HT_.out (by kernel_rfl)) (fun _ _ _ h => h) (Or.inl ⟨by rfl, ?_⟩) ?_ ?_
         rotate_left
         · intro w'; go_simp
           with_reducible rfl
         rotate_left
         · simp only [Act.put, sa, sb, sc, i64_w, i32_w]
           rfl
         refine take_ (i := 8) (N := some 49) (v := ?_) (a' := ?_) #[true, true, true, true, true, true, true, true, true, false, false, false, true, false] rfl rfl (take_ofW HT_.out HW_.out (by kernel_rfl)) (fun _ _ _ h => h) (Or.inl ⟨by rfl, ?_⟩) hHeld ?_ ?_
         rotate_left
         · rintro w' ⟨s0, s1, s2, s3, s4, s5, s6, s7⟩
           go_simp
           with_reducible rfl
         rotate_left
         · simp only [Act.put, sa, sb, sc, i64_w, i32_w]
           rfl
         refine pure_ (i := 9) (N := some 50) (v := ?_) (a' := ?_) #[true, true, true, true, true, true, true, true, true, true, false, false, true, false] rfl rfl (any_of HT_.out (by kernel_rfl)) (fun _ _ _ h => h) (Or.inl ⟨by rfl, ?_⟩) ?_ ?_
         rotate_left
         · intro w'; go_simp
           with_reducible rfl
         rotate_left
         · simp only [Act.put, sa, sb, sc, i64_w, i32_w]
           rfl
         refine pure_ (i := 10) (N := some 51) (v := ?_) (a' := ?_) #[true, true, true, true, true, true, true, true, true, true, true, false, true, false] rfl rfl (any_of HT_.out (by kernel_rfl)) (fun _ _ _ h => h) (Or.inl ⟨by rfl, ?_⟩) ?_ ?_
         rotate_left
         · intro w'; go_simp
           with_reducible rfl
         rotate_left
         · simp only [Act.put, sa, sb, sc, i64_w, i32_w]
           rfl
         refine take_ (i := 11) (N := some 52) (v := ?_) (a' := ?_) #[true, true, true, true, true, true, true, true, true, true, true, true, true, false] rfl rfl (take_ofW HT_.out HW_.out (by kernel_rfl)) (fun _ _ _ h => h) (Or.inl ⟨by rfl, ?_⟩) hHeld ?_ ?_
         rotate_left
         · rintro w' ⟨s0, s1, s2, s3, s4, s5, s6, s7⟩
           go_simp
           with_reducible rfl
         rotate_left
         · simp only [Act.put, sa, sb, sc, i64_w, i32_w]
           rfl
         refine pure_ (i := 13) (N := some 54) (v := ?_) (a' := ?_) #[true, true, true, true, true, true, true, true, true, true, true, true, true, true] rfl rfl (any_of HT_.out (by kernel_rfl)) (fun _ _ _ h => h) (Or.inl ⟨by rfl, ?_⟩) ?_ ?_
         rotate_left
         · intro w'; go_simp
           with_reducible rfl
         rotate_left
         · simp only [Act.put, sa, sb, sc, i64_w, i32_w]
           rfl
         refine done_ (done_of HT_.out (by kernel_rfl)) ?_
         try go_wp2
         go_roundg k3
         case measure => have := HK1.out; have := HK2.out; have := HK3.out; omega
         case rel => exact ⟨(x11_3), (wrap64 (x12_3 + 1)), eqA, eqA, H', ⟨xq29⟩, ⟨sA HO_5⟩, ⟨blkA⟩, ⟨belA⟩⟩
       rw [if_pos c17] at H; have c17b0 : (((rd_T76 l0_2 (rd (rd_L3 t174 x10_2) x12_3)).f0) == x8_1) = true := beq_iff_eq.mpr c17; have c17b1 : (((rd_T76 l0_2 (rd (rd_L3 t174 x10_2) x12_3)).f0) != x8_1) = false := bne_eq_false_iff_eq.mpr c17; clear c17; replace H := Option.bind_eq_some_iff.mp H; obtain ⟨t185, A180, H⟩ := H; (try dsimp only at H); have A18 := ak A180; clear A180; have H' := ak H; clear H; obtain ⟨Ao19, co19, eo19⟩ := Kd.S_slice HO_5.out; subst eo19; have p178 : 0 ≤ (x10_2 : Int) := odA; have q178 : x10_2 < (t174.length : Int) := odA; obtain ⟨ad178, A178_0, c178_0, e178, hx178_0, hl178_0, hi178_0⟩ := at_L3 (Kd.S_reads' HO_5.out).2.2 x10_2 p178 q178
       cases e178
       obtain ⟨ce178, hce178, hMe178, hcc178⟩ := Kd.S_get HO_5.out [] x10_2 p178 xq28; obtain ⟨ve178_0, rfl, ge178_0⟩ := hMe178; have hv178_0 := hcc178 0 _ rfl; rw [Nat.add_zero, show ((Kd.slice 3 (Kd.int .i64))).sz = 1 from rfl, Nat.mul_one] at hv178_0; replace hv178_0 := Option.some.inj (hv178_0.symm.trans hx178_0); rw [hv178_0] at ge178_0; have HL178_0 := ak (show Kd.R (Kd.int .i64) 3 _ _ _ _ (rd_L3 t174 x10_2) from ge178_0); clear hv178_0 ge178_0; clear hcc178 hce178; have HR178_0 := ak hi178_0; have HC178_0 := ak hl178_0; clear hi178_0 hl178_0; replace p178 := eq_true p178; replace q178 := eq_true q178; try go_wp2
       replace HO_5 := ak (Kd.S_drew HO_5.out); replace HL178_0 := ak (Kd.R_drew HL178_0.out); replace BK173 := ak (blk_drew BK173.out); replace HR178_0 := ak (Kd.C_drew HR178_0.out); replace HB := ak (below_drew1 HB.out); have p179 : 0 ≤ (x10_2 : Int) := odA; have q179 : x10_2 < (t174.length : Int) := odA; obtain ⟨ad179, A179_0, c179_0, e179, hx179_0, hl179_0, hi179_0⟩ := at_L3 (Kd.S_reads' HO_5.out).2.2 x10_2 p179 q179; obtain rfl : ad178 = ad179 := (by injection e179); obtain ⟨ce179, hce179, hMe179, hcc179⟩ := Kd.S_get HO_5.out [] x10_2 p179 xq60; obtain ⟨ve179_0, rfl, ge179_0⟩ := hMe179; have hv179_0 := hcc179 0 _ rfl; rw [Nat.add_zero, show ((Kd.slice 3 (Kd.int .i64))).sz = 1 from rfl, Nat.mul_one] at hv179_0; replace hv179_0 := Option.some.inj (hv179_0.symm.trans hx179_0); rw [hv179_0] at ge179_0; have HL179_0 := ak (show Kd.R (Kd.int .i64) 3 _ _ _ _ (rd_L3 t174 x10_2) from ge179_0); clear hv179_0 ge179_0; clear hcc179 hce179; have HR179_0 := ak hi179_0; have HC179_0 := ak hl179_0; clear hi179_0 hl179_0; replace p179 := eq_true p179; replace q179 := eq_true q179; have p180 : 0 ≤ (x12_3 : Int) := odA; have q180 : x12_3 < ((rd_L3 t174 x10_2).length : Int) := odA; obtain ⟨ad180, e180, hx180_0⟩ := Kd.at_int xq37 x12_3 p180 q180
       cases e180
       replace p180 := eq_true p180; replace q180 := eq_true q180; have p181 : 0 ≤ ((rd (rd_L3 t174 x10_2) x12_3) : Int) := odA; have q181 : (rd (rd_L3 t174 x10_2) x12_3) < (l0_2.length : Int) := odA; obtain ⟨ad181, e181, hx181_0, hx181_1, hx181_2⟩ := at_T76 HR0_2.out (rd (rd_L3 t174 x10_2) x12_3) p181 q181; have hw181_2 := hx181_2; have hw181_1 := hx181_1; have hw181_0 := hx181_0
       cases e181
       try replace hx181_0 := cB HB hx181_0
       try replace hx181_1 := cB HB hx181_1
       try replace hx181_2 := cB HB hx181_2
       replace p181 := eq_true p181; replace q181 := eq_true q181; refine start_ (n := 14) (S := fun w' => w'.cell? ⟨gb173, 0, none⟩ = some (.int .i64 a0_0) ∧ w'.cell? ⟨gb173, 1, none⟩ = some (.int .i64 a0_1) ∧ w'.cell? ⟨gb173, 2, none⟩ = some (.slice (some ad181) l0_2.length c0_2) ∧ w'.cell? (ad178.add (x10_2).toNat) = some (.slice (some ad180) (rd_L3 t174 x10_2).length c179_0) ∧ w'.cell? (ad180.add (x12_3).toNat) = some (.int .i64 (rd (rd_L3 t174 x10_2) x12_3)) ∧ w'.cell? (ad181.add (((rd (rd_L3 t174 x10_2) x12_3)).toNat * 3)) = some (.int .i64 ((rd_T76 l0_2 (rd (rd_L3 t174 x10_2) x12_3)).f0)) ∧ w'.cell? ⟨(ad181.add (((rd (rd_L3 t174 x10_2) x12_3)).toNat * 3)).block, (ad181.add (((rd (rd_L3 t174 x10_2) x12_3)).toNat * 3)).off + 1, none⟩ = some (.int .i64 ((rd_T76 l0_2 (rd (rd_L3 t174 x10_2) x12_3)).f1)) ∧ w'.cell? ⟨(ad181.add (((rd (rd_L3 t174 x10_2) x12_3)).toNat * 3)).block, (ad181.add (((rd (rd_L3 t174 x10_2) x12_3)).toNat * 3)).off + 2, none⟩ = some (.int .i64 ((rd_T76 l0_2 (rd (rd_L3 t174 x10_2) x12_3)).f2))) (ds := []) #[false, false, false, false, false, false, false, false, false, false, false, false, false, false] (by kernel_rfl) rfl rfl ⟨(blk_cell BK173.out 0).trans rfl, (blk_cell BK173.out 1).trans rfl, (blk_cell BK173.out 2).trans rfl, hx179_0, hx180_0, ((HB.out.cell (World.block_lt_of_cell? w _ hw181_0)).trans hw181_0), ((HB.out.cell (World.block_lt_of_cell? w _ hw181_1)).trans hw181_1), ((HB.out.cell (World.block_lt_of_cell? w _ hw181_2)).trans hw181_2)⟩ (fun hHeld => ?_); refine with_tabW spec_Makespan.tab16 spec_Makespan.bits16 (fun HT_ HW_ => ?_)
       generalize wr.drew = w20 at HO_5 HL178_0 BK173 HR178_0 HB HL179_0 HR179_0 hx179_0 hx180_0 hx181_0 hx181_1 hx181_2 hHeld ⊢
       refine pure_ (i := 0) (N := some 41) (v := ?_) (a' := ?_) #[true, false, false, false, false, false, false, false, false, false, false, false, false, false] rfl rfl (any_of HT_.out (by kernel_rfl)) (fun _ _ _ h => h) (Or.inl ⟨by rfl, ?_⟩) ?_ ?_
       rotate_left
       · intro w'; go_simp
         with_reducible rfl
       rotate_left
       · simp only [Act.put, sa, sb, sc, i64_w, i32_w]
         rfl
       refine pure_ (i := 2) (N := some 43) (v := ?_) (a' := ?_) #[true, false, true, false, false, false, false, false, false, false, false, false, false, false] rfl rfl (any_of HT_.out (by kernel_rfl)) (fun _ _ _ h => h) (Or.inl ⟨by rfl, ?_⟩) ?_ ?_
       rotate_left
       · intro w'; go_simp
         with_reducible rfl
       rotate_left
       · simp only [Act.put, sa, sb, sc, i64_w, i32_w]
         rfl
       refine pure_ (i := 3) (N := some 44) (v := ?_) (a' := ?_) #[true, false, true, true, false, false, false, false, false, false, false, false, false, false] rfl rfl (any_of HT_.out (by kernel_rfl)) (fun _ _ _ h => h) (Or.inl ⟨by rfl, ?_⟩) ?_ ?_
       rotate_left
       · intro w'; go_simp
         with_reducible rfl
       rotate_left
       · simp only [Act.put, sa, sb, sc, i64_w, i32_w]
         rfl
       refine pure_ (i := 4) (N := some 45) (v := ?_) (a' := ?_) #[true, false, true, true, true, false, false, false, false, false, false, false, false, false] rfl rfl (any_of HT_.out (by kernel_rfl)) (fun _ _ _ h => h) (Or.inl ⟨by rfl, ?_⟩) ?_ ?_
       rotate_left
       · intro w'; go_simp
         with_reducible rfl
       rotate_left
       · simp only [Act.put, sa, sb, sc, i64_w, i32_w]
         rfl
       refine pure_ (i := 6) (N := some 47) (v := ?_) (a' := ?_) #[true, false, true, true, true, false, true, false, false, false, false, false, false, false] rfl rfl (any_of HT_.out (by kernel_rfl)) (fun _ _ _ h => h) (Or.inl ⟨by rfl, ?_⟩) ?_ ?_
       rotate_left
       · intro w'; go_simp
         with_reducible rfl
       rotate_left
       · simp only [Act.put, sa, sb, sc, i64_w, i32_w]
         rfl
       refine pure_ (i := 12) (N := some 53) (v := ?_) (a' := ?_) #[true, false, true, true, true, false, true, false, false, false, false, false, true, false] rfl rfl (any_of HT_.out (by kernel_rfl)) (fun _ _ _ h => h) (Or.inl ⟨by rfl, ?_⟩) ?_ ?_
       rotate_left
       · intro w'; go_simp
         with_reducible rfl
       rotate_left
       · simp only [Act.put, sa, sb, sc, i64_w, i32_w]
         rfl
       refine take_ (i := 1) (N := some 42) (v := ?_) (a' := ?_) #[true, true, true, true, true, false, true, false, false, false, false, false, true, false] rfl rfl (take_ofW HT_.out HW_.out (by kernel_rfl)) (fun _ _ _ h => h) (Or.inl ⟨by rfl, ?_⟩) hHeld ?_ ?_
       rotate_left
       · rintro w' ⟨s0, s1, s2, s3, s4, s5, s6, s7⟩
         go_simp
         with_reducible rfl
       rotate_left
       · simp only [Act.put, sa, sb, sc, i64_w, i32_w]
         rfl
       refine take_ (i := 5) (N := some 46) (v := ?_) (a' := ?_) #[true, true, true, true, true, true, true, false, false, false, false, false, true, false] rfl rfl (take_ofW HT_.out HW_.out (by kernel_rfl)) (fun _ _ _ h => h) (Or.inl ⟨by rfl, ?_⟩) hHeld ?_ ?_
       rotate_left
       · rintro w' ⟨s0, s1, s2, s3, s4, s5, s6, s7⟩
         go_simp
         with_reducible rfl
       rotate_left
       · simp only [Act.put, sa, sb, sc, i64_w, i32_w]
         rfl
       refine pure_ (i := 7) (N := some 48) (v := ?_) (a' := ?_) #[true, true, true, true, true, true, true, true, false, false, false, false, true, false] rfl rfl (any_of HT_.out (by kernel_rfl)) (fun _ _ _ h => h) (Or.inl ⟨by rfl, ?_⟩) ?_ ?_
       rotate_left
       · intro w'; go_simp
         with_reducible rfl
       rotate_left
       · simp only [Act.put, sa, sb, sc, i64_w, i32_w]
         rfl
       refine take_ (i := 8) (N := some 49) (v := ?_) (a' := ?_) #[true, true, true, true, true, true, true, true, true, false, false, false, true, false] rfl rfl (take_ofW HT_.out HW_.out (by kernel_rfl)) (fun _ _ _ h => h) (Or.inl ⟨by rfl, ?_⟩) hHeld ?_ ?_
       rotate_left
       · rintro w' ⟨s0, s1, s2, s3, s4, s5, s6, s7⟩
         go_simp
         with_reducible rfl
       rotate_left
       · simp only [Act.put, sa, sb, sc, i64_w, i32_w]
         rfl
       refine pure_ (i := 9) (N := some 50) (v := ?_) (a' := ?_) #[true, true, true, true, true, true, true, true, true, true, false, false, true, false] rfl rfl (any_of HT_.out (by kernel_rfl)) (fun _ _ _ h => h) (Or.inl ⟨by rfl, ?_⟩) ?_ ?_
       rotate_left
       · intro w'; go_simp
         with_reducible rfl
       rotate_left
       · simp only [Act.put, sa, sb, sc, i64_w, i32_w]
         rfl
       refine pure_ (i := 10) (N := some 51) (v := ?_) (a' := ?_) #[true, true, true, true, true, true, true, true, true, true, true, false, true, false] rfl rfl (any_of HT_.out (by kernel_rfl)) (fun _ _ _ h => h) (Or.inl ⟨by rfl, ?_⟩) ?_ ?_
       rotate_left
       · intro w'; go_simp
         with_reducible rfl
       rotate_left
       · simp only [Act.put, sa, sb, sc, i64_w, i32_w]
         rfl
       refine take_ (i := 11) (N := some 52) (v := ?_) (a' := ?_) #[true, true, true, true, true, true, true, true, true, true, true, true, true, false] rfl rfl (take_ofW HT_.out HW_.out (by kernel_rfl)) (fun _ _ _ h => h) (Or.inl ⟨by rfl, ?_⟩) hHeld ?_ ?_
       rotate_left
       · rintro w' ⟨s0, s1, s2, s3, s4, s5, s6, s7⟩
         go_simp
         with_reducible rfl
       rotate_left
       · simp only [Act.put, sa, sb, sc, i64_w, i32_w]
         rfl
       refine pure_ (i := 13) (N := some 54) (v := ?_) (a' := ?_) #[true, true, true, true, true, true, true, true, true, true, true, true, true, true] rfl rfl (any_of HT_.out (by kernel_rfl)) (fun _ _ _ h => h) (Or.inl ⟨by rfl, ?_⟩) ?_ ?_
       rotate_left
       · intro w'; go_simp
         with_reducible rfl
       rotate_left
       · simp only [Act.put, sa, sb, sc, i64_w, i32_w]
         rfl
       refine done_ (done_of HT_.out (by kernel_rfl)) ?_
       try go_wp2
       replace HO_5 := ak (Kd.S_drew HO_5.out); replace HL178_0 := ak (Kd.R_drew HL178_0.out); replace HL179_0 := ak (Kd.R_drew HL179_0.out); replace BK173 := ak (blk_drew BK173.out); replace HR178_0 := ak (Kd.C_drew HR178_0.out); replace HR179_0 := ak (Kd.C_drew HR179_0.out); replace HB := ak (below_drew1 HB.out); have p182 : 0 ≤ (x10_2 : Int) := odA; have q182 : x10_2 < (t174.length : Int) := odA; obtain ⟨ad182, A182_0, c182_0, e182, hx182_0, hl182_0, hi182_0⟩ := at_L3 (Kd.S_reads' HO_5.out).2.2 x10_2 p182 q182; obtain rfl : ad178 = ad182 := (by injection e182); obtain ⟨ce182, hce182, hMe182, hcc182⟩ := Kd.S_get HO_5.out [] x10_2 p182 (by first | exact q182 | exact odA | (have e_ := (Kd.S_reads' HO_5.out).1; omega)); obtain ⟨ve182_0, rfl, ge182_0⟩ := hMe182; have hv182_0 := hcc182 0 _ rfl; rw [Nat.add_zero, show ((Kd.slice 3 (Kd.int .i64))).sz = 1 from rfl, Nat.mul_one] at hv182_0; replace hv182_0 := Option.some.inj (hv182_0.symm.trans hx182_0); rw [hv182_0] at ge182_0; have HL182_0 := ak (show Kd.R (Kd.int .i64) 3 _ _ _ _ (rd_L3 t174 x10_2) from ge182_0); clear hv182_0 ge182_0; clear hcc182 hce182; have HR182_0 := ak hi182_0; have HC182_0 := ak hl182_0; clear hi182_0 hl182_0; replace p182 := eq_true p182; replace q182 := eq_true q182; have p183 : 0 ≤ (x12_3 : Int) := odA; have q183 : x12_3 < ((rd_L3 t174 x10_2).length : Int) := odA; obtain ⟨ad183, e183, hx183_0⟩ := Kd.at_int xq61 x12_3 p183 q183
       cases e183
       replace p183 := eq_true p183; replace q183 := eq_true q183; have p184 : 0 ≤ ((rd (rd_L3 t174 x10_2) x12_3) : Int) := odA; have q184 : (rd (rd_L3 t174 x10_2) x12_3) < (l0_2.length : Int) := odA; obtain ⟨ad184, e184, hx184_0, hx184_1, hx184_2⟩ := at_T76 HR0_2.out (rd (rd_L3 t174 x10_2) x12_3) p184 q184; have hw184_2 := hx184_2; have hw184_1 := hx184_1; have hw184_0 := hx184_0; obtain rfl : ad181 = ad184 := (by injection e184); try replace hx184_0 := cB HB hx184_0
       try replace hx184_1 := cB HB hx184_1
       try replace hx184_2 := cB HB hx184_2
       replace p184 := eq_true p184; replace q184 := eq_true q184; refine start_ (n := 15) (S := fun w' => w'.cell? ⟨gb173, 0, none⟩ = some (.int .i64 a0_0) ∧ w'.cell? ⟨gb173, 1, none⟩ = some (.int .i64 a0_1) ∧ w'.cell? ⟨gb173, 2, none⟩ = some (.slice (some ad181) l0_2.length c0_2) ∧ w'.cell? (ad178.add (x10_2).toNat) = some (.slice (some ad183) (rd_L3 t174 x10_2).length c182_0) ∧ w'.cell? (ad183.add (x12_3).toNat) = some (.int .i64 (rd (rd_L3 t174 x10_2) x12_3)) ∧ w'.cell? (ad181.add (((rd (rd_L3 t174 x10_2) x12_3)).toNat * 3)) = some (.int .i64 ((rd_T76 l0_2 (rd (rd_L3 t174 x10_2) x12_3)).f0)) ∧ w'.cell? ⟨(ad181.add (((rd (rd_L3 t174 x10_2) x12_3)).toNat * 3)).block, (ad181.add (((rd (rd_L3 t174 x10_2) x12_3)).toNat * 3)).off + 1, none⟩ = some (.int .i64 ((rd_T76 l0_2 (rd (rd_L3 t174 x10_2) x12_3)).f1)) ∧ w'.cell? ⟨(ad181.add (((rd (rd_L3 t174 x10_2) x12_3)).toNat * 3)).block, (ad181.add (((rd (rd_L3 t174 x10_2) x12_3)).toNat * 3)).off + 2, none⟩ = some (.int .i64 ((rd_T76 l0_2 (rd (rd_L3 t174 x10_2) x12_3)).f2))) (ds := []) #[false, false, false, false, false, false, false, false, false, false, false, false, false, false, false] (by kernel_rfl) rfl rfl ⟨(blk_cell BK173.out 0).trans rfl, (blk_cell BK173.out 1).trans rfl, (blk_cell BK173.out 2).trans rfl, hx182_0, hx183_0, ((HB.out.cell (World.block_lt_of_cell? w _ hw184_0)).trans hw184_0), ((HB.out.cell (World.block_lt_of_cell? w _ hw184_1)).trans hw184_1), ((HB.out.cell (World.block_lt_of_cell? w _ hw184_2)).trans hw184_2)⟩ (fun hHeld => ?_); refine with_tabW spec_Makespan.tab17 spec_Makespan.bits17 (fun HT_ HW_ => ?_)
       generalize w20.drew = w21 at HO_5 HL178_0 HL179_0 BK173 HR178_0 HR179_0 HB HL182_0 HR182_0 hx182_0 hx183_0 hx184_0 hx184_1 hx184_2 hHeld ⊢
       refine pure_ (i := 0) (N := some 55) (v := ?_) (a' := ?_) #[true, false, false, false, false, false, false, false, false, false, false, false, false, false, false] rfl rfl (any_of HT_.out (by kernel_rfl)) (fun _ _ _ h => h) (Or.inl ⟨by rfl, ?_⟩) ?_ ?_
       rotate_left
       · intro w'; go_simp
         with_reducible rfl
       rotate_left
       · simp only [Act.put, sa, sb, sc, i64_w, i32_w]
         rfl
       refine pure_ (i := 1) (N := some 56) (v := ?_) (a' := ?_) #[true, true, false, false, false, false, false, false, false, false, false, false, false, false, false] rfl rfl (any_of HT_.out (by kernel_rfl)) (fun _ _ _ h => h) (Or.inl ⟨by rfl, ?_⟩) ?_ ?_
       rotate_left
       · intro w'; go_simp
         with_reducible rfl
       rotate_left
       · simp only [Act.put, sa, sb, sc, i64_w, i32_w]
         rfl
       refine pure_ (i := 3) (N := some 58) (v := ?_) (a' := ?_) #[true, true, false, true, false, false, false, false, false, false, false, false, false, false, false] rfl rfl (any_of HT_.out (by kernel_rfl)) (fun _ _ _ h => h) (Or.inl ⟨by rfl, ?_⟩) ?_ ?_
       rotate_left
       · intro w'; go_simp
         with_reducible rfl
       rotate_left
       · simp only [Act.put, sa, sb, sc, i64_w, i32_w]
         rfl
       refine pure_ (i := 4) (N := some 59) (v := ?_) (a' := ?_) #[true, true, false, true, true, false, false, false, false, false, false, false, false, false, false] rfl rfl (any_of HT_.out (by kernel_rfl)) (fun _ _ _ h => h) (Or.inl ⟨by rfl, ?_⟩) ?_ ?_
       rotate_left
       · intro w'; go_simp
         with_reducible rfl
       rotate_left
       · simp only [Act.put, sa, sb, sc, i64_w, i32_w]
         rfl
       refine pure_ (i := 5) (N := some 60) (v := ?_) (a' := ?_) #[true, true, false, true, true, true, false, false, false, false, false, false, false, false, false] rfl rfl (any_of HT_.out (by kernel_rfl)) (fun _ _ _ h => h) (Or.inl ⟨by rfl, ?_⟩) ?_ ?_
       rotate_left
       · intro w'; go_simp
         with_reducible rfl
       rotate_left
       · simp only [Act.put, sa, sb, sc, i64_w, i32_w]
         rfl
       refine pure_ (i := 7) (N := some 62) (v := ?_) (a' := ?_) #[true, true, false, true, true, true, false, true, false, false, false, false, false, false, false] rfl rfl (any_of HT_.out (by kernel_rfl)) (fun _ _ _ h => h) (Or.inl ⟨by rfl, ?_⟩) ?_ ?_
       rotate_left
       · intro w'; go_simp
         with_reducible rfl
       rotate_left
       · simp only [Act.put, sa, sb, sc, i64_w, i32_w]
         rfl
       refine take_ (i := 2) (N := some 57) (v := ?_) (a' := ?_) #[true, true, true, true, true, true, false, true, false, false, false, false, false, false, false] rfl rfl (take_ofW HT_.out HW_.out (by kernel_rfl)) (fun _ _ _ h => h) (Or.inl ⟨by rfl, ?_⟩) hHeld ?_ ?_
       rotate_left
       · rintro w' ⟨s0, s1, s2, s3, s4, s5, s6, s7⟩
         go_simp
         with_reducible rfl
       rotate_left
       · simp only [Act.put, sa, sb, sc, i64_w, i32_w]
         rfl
       refine take_ (i := 6) (N := some 61) (v := ?_) (a' := ?_) #[true, true, true, true, true, true, true, true, false, false, false, false, false, false, false] rfl rfl (take_ofW HT_.out HW_.out (by kernel_rfl)) (fun _ _ _ h => h) (Or.inl ⟨by rfl, ?_⟩) hHeld ?_ ?_
       rotate_left
       · rintro w' ⟨s0, s1, s2, s3, s4, s5, s6, s7⟩
         go_simp
         with_reducible rfl
       rotate_left
       · simp only [Act.put, sa, sb, sc, i64_w, i32_w]
         rfl
       refine pure_ (i := 8) (N := some 63) (v := ?_) (a' := ?_) #[true, true, true, true, true, true, true, true, true, false, false, false, false, false, false] rfl rfl (any_of HT_.out (by kernel_rfl)) (fun _ _ _ h => h) (Or.inl ⟨by rfl, ?_⟩) ?_ ?_
       rotate_left
       · intro w'; go_simp
         with_reducible rfl
       rotate_left
       · simp only [Act.put, sa, sb, sc, i64_w, i32_w]
         rfl
       refine take_ (i := 9) (N := some 64) (v := ?_) (a' := ?_) #[true, true, true, true, true, true, true, true, true, true, false, false, false, false, false] rfl rfl (take_ofW HT_.out HW_.out (by kernel_rfl)) (fun _ _ _ h => h) (Or.inl ⟨by rfl, ?_⟩) hHeld ?_ ?_
       rotate_left
       · rintro w' ⟨s0, s1, s2, s3, s4, s5, s6, s7⟩
         go_simp
         with_reducible rfl
       rotate_left
       · simp only [Act.put, sa, sb, sc, i64_w, i32_w]
         rfl
       refine pure_ (i := 10) (N := some 65) (v := ?_) (a' := ?_) #[true, true, true, true, true, true, true, true, true, true, true, false, false, false, false] rfl rfl (any_of HT_.out (by kernel_rfl)) (fun _ _ _ h => h) (Or.inl ⟨by rfl, ?_⟩) ?_ ?_
       rotate_left
       · intro w'; go_simp
         with_reducible rfl
       rotate_left
       · simp only [Act.put, sa, sb, sc, i64_w, i32_w]
         rfl
       refine take_ (i := 11) (N := some 66) (v := ?_) (a' := ?_) #[true, true, true, true, true, true, true, true, true, true, true, true, false, false, false] rfl rfl (take_ofW HT_.out HW_.out (by kernel_rfl)) (fun _ _ _ h => h) (Or.inl ⟨by rfl, ?_⟩) hHeld ?_ ?_
       rotate_left
       · rintro w' ⟨s0, s1, s2, s3, s4, s5, s6, s7⟩
         go_simp
         with_reducible rfl
       rotate_left
       · simp only [Act.put, sa, sb, sc, i64_w, i32_w]
         rfl
       refine one_ (i := 12) (N := some 67) #[true, true, true, true, true, true, true, true, true, true, true, true, true, false, false] rfl rfl (one_of HT_.out (by kernel_rfl)) (by decide) (fun K hK => ?_)
       refine goes_ Try.func94 (by kernel_rfl) rfl #[.agg #[.int .i64 ((rd_T76 l0_2 (rd (rd_L3 t174 x10_2) x12_3)).f0), .int .i64 ((rd_T76 l0_2 (rd (rd_L3 t174 x10_2) x12_3)).f1), .int .i64 ((rd_T76 l0_2 (rd (rd_L3 t174 x10_2) x12_3)).f2)]] (by rfl) rfl rfl xq9 ?_
       with_reducible refine (spec_StepCost.calls ((rd_T76 l0_2 (rd (rd_L3 t174 x10_2) x12_3)).f0) ((rd_T76 l0_2 (rd (rd_L3 t174 x10_2) x12_3)).f1) ((rd_T76 l0_2 (rd (rd_L3 t174 x10_2) x12_3)).f2) t185 _ A18.out).mono ?_
       rintro e w22 ⟨rfl, hb⟩
       have HS3_ := (hb.cell (World.block_lt_of_cell? _ _ (hHeld.2.2.2.1))).trans (hHeld.2.2.2.1); have HS4_ := (hb.cell (World.block_lt_of_cell? _ _ (hHeld.2.2.2.2.1))).trans (hHeld.2.2.2.2.1); refine ⟨_, rfl, ?_⟩
       replace HO_5 := sB HO_5 hb; replace HL178_0 := rB HL178_0 hb; replace HL179_0 := rB HL179_0 hb; replace HL182_0 := rB HL182_0 hb; replace BK173 := bB BK173 hb; replace HR178_0 := ak (Kd.C_below (by repeat (first | (with_reducible exact HR178_0.out) | (with_reducible refine Kd.C_alloc ?_ _) | (with_reducible refine Kd.C_drewN ?_ _) | (with_reducible refine Kd.C_drew ?_) | exact HR178_0.out)) hb); replace HR179_0 := ak (Kd.C_below xq37 hb); replace HR182_0 := ak (Kd.C_below xq61 hb); replace HB := bS hb; (try clear hb); refine hK.out _ _ ⟨(blk_cell BK173.out 0).trans rfl, (blk_cell BK173.out 1).trans rfl, (blk_cell BK173.out 2).trans rfl, HS3_, HS4_, ((HB.out.cell (World.block_lt_of_cell? w _ hw184_0)).trans hw184_0), ((HB.out.cell (World.block_lt_of_cell? w _ hw184_1)).trans hw184_1), ((HB.out.cell (World.block_lt_of_cell? w _ hw184_2)).trans hw184_2)⟩ (fun hHeld => ?_)
       clear hK K; refine norm_ (a' := ?_) ?_ ?_
       rotate_left
       · show Act.put _ (some 67) _ = _
         simp only [Act.put, sa, sb, sc, i64_w, i32_w]
         rfl
       refine pure_ (i := 13) (N := some 68) (v := ?_) (a' := ?_) #[true, true, true, true, true, true, true, true, true, true, true, true, true, true, false] rfl rfl (any_of HT_.out (by kernel_rfl)) (fun _ _ _ h => h) (Or.inl ⟨by rfl, ?_⟩) ?_ ?_
       rotate_left
       · intro w'; go_simp
         with_reducible rfl
       rotate_left
       · simp only [Act.put, sa, sb, sc, i64_w, i32_w]
         rfl
       refine pure_ (i := 14) (N := some 11) (v := ?_) (a' := ?_) #[true, true, true, true, true, true, true, true, true, true, true, true, true, true, true] rfl rfl (any_of HT_.out (by kernel_rfl)) (fun _ _ _ h => h) (Or.inl ⟨by rfl, ?_⟩) ?_ ?_
       rotate_left
       · intro w'; go_simp
         with_reducible rfl
       rotate_left
       · simp only [Act.put, sa, sb, sc, i64_w, i32_w]
         rfl
       refine done_ (done_of HT_.out (by kernel_rfl)) ?_
       try go_wp2
       go_roundg k3
       case measure => have := HK1.out; have := HK2.out; have := HK3.out; omega
       case rel => exact ⟨(wrap64 (x11_3 + t185)), (wrap64 (x12_3 + 1)), eqA, eqA, H', ⟨xq29⟩, ⟨sA HO_5⟩, ⟨blkA⟩, ⟨belA⟩⟩

end Go.Proofs.Ytdefnccngnilmaa.PFnExactMakespan

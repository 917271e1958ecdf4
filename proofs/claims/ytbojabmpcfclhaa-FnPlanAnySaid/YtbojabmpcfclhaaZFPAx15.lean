-- Written by a program of this session (the print of the kit with contracts of this session's own added)
import Derived.Test.YtbojabmpcfclhaaZFPAx1
import Derived.Test.YtbojabmpcfclhaaZFPAx3
import Derived.Test.YtbojabmpcfclhaaZFPAx5
import Derived.Test.YtbojabmpcfclhaaZFPAx7
import Derived.Test.YtbojabmpcfclhaaZFPAx9
import Derived.Test.YtbojabmpcfclhaaZFPAx12
import Derived.Test.YtbojabmpcfclhaaZFPAx13
import Derived.Test.YtbojabmpcfclhaaZFPAx14
import Derived.Test.YtbojabmpcfclhaaZFPAV
import Derived.Test.YtbojabmpcfclhaaZFPAx2
namespace Go.Proofs.Ytbojabmpcfclhaa.PFnPlanAny
open Go.RowKit Go.Proofs.YtbojabmpcfclhaaW.PrintWords Go.Proofs.YtbojabmpcfclhaaW.PrintLast Go.Proofs.YtbojabmpcfclhaaW.PrintMore Go.Proofs.YtbojabmpcfclhaaW.PrintPack
attribute [local go_sem] max2_int min2_int max_two min_two max_three min_three max_four min_four   -- for this text's walks alone
set_option linter.unusedVariables false
set_option linter.unusedSimpArgs false

/-! ### impl_PlanCost: function 20 -/
def impl_PlanCost.l0 : Nat → Int → List (S36) → Int → Int → Option (Int)
 | 0, _, _, _, _ => none
 | k + 1, x3, x10, x11, x12 => if x12 < x11 then (if 0 ≤ x12 then (if x12 < (x10.length : Int) then (impl_PlanCost.l0 k (wrap64 (x3 + (wrap64 (((rd_T36 x10 x12).f2) - ((rd_T36 x10 x12).f1))))) x10 x11 (wrap64 (x12 + 1))) else (none)) else (none)) else (some x3)
def impl_PlanCost.f (k : Nat) (a0_0 : Int) (a0_1 : Int) (l0_2 : List (S36)) : Option (Int) := (impl_isPlan.f k a0_0 a0_1 l0_2).bind fun t425 => (if t425 = true then (impl_PlanCost.l0 k 0 l0_2 (l0_2.length : Int) 0) else (some (-1)))
theorem impl_PlanCost.mono_l : ∀ k, (∀ y0 y1 y2 y3, LeO (impl_PlanCost.l0 k y0 y1 y2 y3) (impl_PlanCost.l0 (k + 1) y0 y1 y2 y3))
 | 0 => fun _ _ _ _ r h => by simp [impl_PlanCost.l0] at h
 | k + 1 => by
  have ih0 := impl_PlanCost.mono_l k
  · intro y0 y1 y2 y3
    unfold impl_PlanCost.l0
    repeat' first
    | (with_reducible exact ih0 _ _ _ _)
    | (with_reducible exact impl_isPlan.mono _ _ _ _)
    | (with_reducible exact LeO.refl _)
    | (with_reducible exact LeO.none _)
    | (with_reducible refine LeO.ite ?_ ?_)
    | (with_reducible refine LeO.bind ?_ (fun _ => ?_))
    | exact ih0 _ _ _ _
    | exact impl_isPlan.mono _ _ _ _
    | exact LeO.none _
    | refine LeO.ite ?_ ?_
    | refine LeO.bind ?_ (fun _ => ?_)
theorem impl_PlanCost.mono : ∀ a0 a1 a2 k, LeO (impl_PlanCost.f k a0 a1 a2) (impl_PlanCost.f (k + 1) a0 a1 a2) := by
 intro a0 a1 a2 k; have ih0 := impl_PlanCost.mono_l k
 unfold impl_PlanCost.f
 repeat' first
  | (with_reducible exact ih0 _ _ _ _)
  | (with_reducible exact impl_isPlan.mono _ _ _ _)
  | (with_reducible exact LeO.refl _)
  | (with_reducible exact LeO.none _)
  | (with_reducible refine LeO.ite ?_ ?_)
  | (with_reducible refine LeO.bind ?_ (fun _ => ?_))
  | exact ih0 _ _ _ _
  | exact impl_isPlan.mono _ _ _ _
  | exact LeO.none _
  | refine LeO.ite ?_ ?_
  | refine LeO.bind ?_ (fun _ => ?_)
set_option maxHeartbeats 8000000 in
set_option maxRecDepth 100000 in
theorem impl_PlanCost.calls (k : Nat) (a0_0 : Int) (a0_1 : Int) (A0_2 : Option Addr) (c0_2 : Nat) (l0_2 : List (S36)) (r : Int) (w : World) (hr0_2 : Kd.C k36 w A0_2 l0_2.length l0_2) (hc0_2 : l0_2.length ≤ c0_2) (h : impl_PlanCost.f k a0_0 a0_1 l0_2 = some r) :
 Calls Try.prog 20 #[.agg #[.int .i64 a0_0, .int .i64 a0_1, .slice A0_2 l0_2.length c0_2]] w fun e w' => e = .returned (.int .i64 r) ∧ Below w.heap.size w w' := by
 have hu26 := Try.underlying26; have hu36 := Try.underlying36; have HR0_2 := Aside0.mk hr0_2; have HC0_2 := Aside0.mk hc0_2; clear hr0_2 hc0_2; have HB := Aside0.mk (Below.refl w.heap.size w); have H : ((impl_isPlan.f k a0_0 a0_1 l0_2).bind fun t425 => (if t425 = true then (impl_PlanCost.l0 k 0 l0_2 (l0_2.length : Int) 0) else (some (-1)))) = some r := h; clear h; replace H := Option.bind_eq_some_iff.mp H; obtain ⟨t425, A20, H⟩ := H; replace H : (if t425 = true then (impl_PlanCost.l0 k 0 l0_2 (l0_2.length : Int) 0) else (some (-1))) = some r := H
 have A2 := Aside0.mk A20; clear A20
 by_cases c3 : t425 = true
 · subst c3; have H1 : (impl_PlanCost.l0 k 0 l0_2 (l0_2.length : Int) 0) = some r := by rw [if_pos rfl] at H; exact H
   clear H; have H := H1; clear H1; have H' := Aside0.mk H; clear H; go_enter Try.func20, Try.ntmps20
   go_wp2_with (first | ((with_reducible refine gate_dst (N := 1) rfl ?_); refine boxA 1 #[.int .i64 a0_0, .int .i64 a0_1, .slice A0_2 l0_2.length c0_2] 26 ?_; intro gb424 hg w4 hbox hb; have BK424 := Aside0.mk hbox; have GW424 := leA (w := w) hg; have GE424 := leA (w := w) hg; replace HB := bS hb; clear hb hbox hg; obtain ⟨hcz5_0, hcz5_1, hcz5_2, hfz5_0, hfz5_1, hfz5_2⟩ := cel3 BK424) | ((with_reducible refine gate_callee (f := 72) rfl ?_); refine goesL_ (some 7) rfl rfl Try.func72 (by kernel_rfl) rfl #[.agg #[.int .i64 a0_0, .int .i64 a0_1, .slice A0_2 l0_2.length c0_2]] rfl xq1 ?_; (with_reducible refine (impl_isPlan.calls k a0_0 a0_1 _ _ l0_2 true _ ?side1 ?side2 A2.out).mono ?_); (case side1 => exact cA (Kd.C_below HR0_2.out HB.out)); (case side2 => exact HC0_2.out); rintro e w6 ⟨rfl, hb⟩; refine ⟨_, rfl, ?_⟩; replace BK424 := bB BK424 hb; replace HB := bS hb; (try clear hb); (try clear hb2); (try clear hk); (try clear hi); obtain ⟨hcz7_0, hcz7_1, hcz7_2, hfz7_0, hfz7_1, hfz7_2⟩ := cel3 BK424))
   go_loopg [3, 12] k (fun kq v3 v12 w' => ∃ (x3_1 : Int) (x12_1 : Int), v3 = .int .i64 x3_1 ∧ v12 = .int .i64 x12_1 ∧ Aside0 (impl_PlanCost.l0 kq x3_1 l0_2 (l0_2.length : Int) x12_1 = some r) ∧ Aside0 (kq ≤ k) ∧ Aside0 (w'.heap[gb424]? = some (.cells #[.int .i64 a0_0, .int .i64 a0_1, (.slice A0_2 l0_2.length c0_2)] 26 (0, 0))) ∧ Aside0 (Below w.heap.size w w'))
   case atStart => exact ⟨(0), (0), eqA, eqA, H', ⟨Nat.le_refl _⟩, ⟨blkA⟩, ⟨belA⟩⟩
   case round =>
    clear H'; obtain ⟨x3_1, x12_1, rfl, rfl, HA, HK1, BK424, HB⟩ := hrel
    cases gk with
    | zero => exact absurd HA.out (by simp [impl_PlanCost.l0])
    | succ k1 =>
     have H := HA.out; clear HA; simp only [impl_PlanCost.l0] at H
     by_cases c8 : x12_1 < (l0_2.length : Int)
     · rw [if_pos c8] at H; have c8b0 := decide_eq_true c8; clear c8
       by_cases c9 : 0 ≤ x12_1
       · rw [if_pos c9] at H; have c9b0 := decide_eq_true c9; clear c9
         by_cases c10 : x12_1 < (l0_2.length : Int)
         · rw [if_pos c10] at H; have c10b0 := decide_eq_true c10; clear c10; have H' := Aside0.mk H; clear H; have p426 : 0 ≤ (x12_1 : Int) := odA; have q426 : x12_1 < (l0_2.length : Int) := odA; obtain ⟨ad426, e426, hx426_0, hx426_1, hx426_2⟩ := at_T36 HR0_2.out x12_1 p426 q426
           cases e426
           try replace hx426_0 := cB HB hx426_0
           try replace hx426_1 := cB HB hx426_1
           try replace hx426_2 := cB HB hx426_2
           replace p426 := eq_true p426; replace q426 := eq_true q426; go_wp2_with (first | ((with_reducible refine gate_dst (N := 5) rfl ?_); refine boxA 5 #[.int .i64 0, .int .i64 0, .int .i64 0] 36 ?_; intro gb427 hg w11 hbox hb; have BK427 := Aside0.mk hbox; have GW427 := leA (w := w) hg; have GE427 := leA (w := w) hg; have NB424_427 := neL hg BK424; have NB427_424 := neG hg BK424; replace BK424 := bB BK424 hb; replace HB := bS hb; clear hb hbox hg; have hnb12 := NB427_424.out; have hnc12 := NB424_427.out; obtain ⟨hcz13_0, hcz13_1, hcz13_2, hfz13_0, hfz13_1, hfz13_2⟩ := cel3 BK427))
           go_roundg k1
           case measure => have := HK1.out; omega
           case rel => exact ⟨(wrap64 (x3_1 + (wrap64 (((rd_T36 l0_2 x12_1).f2) - ((rd_T36 l0_2 x12_1).f1))))), (wrap64 (x12_1 + 1)), eqA, eqA, H', ⟨xq12⟩, ⟨by (with_reducible repeat (first | refine blk_drewN ?_ _ | refine blk_drew ?_ | refine blk_alloc ?_ _)); refine blk_far ?_ NB424_427.out _; (with_reducible repeat (first | refine blk_drewN ?_ _ | refine blk_drew ?_ | refine blk_alloc ?_ _)); refine blk_far ?_ NB424_427.out _; (with_reducible repeat (first | refine blk_drewN ?_ _ | refine blk_drew ?_ | refine blk_alloc ?_ _)); refine blk_far ?_ NB424_427.out _; (with_reducible repeat (first | refine blk_drewN ?_ _ | refine blk_drew ?_ | refine blk_alloc ?_ _)); exact BK424.out⟩, ⟨belA⟩⟩
         · rw [if_neg c10] at H; exact absurd H (by simp)
       · rw [if_neg c9] at H; exact absurd H (by simp)
     · rw [if_neg c8] at H; have c8b0 := decide_eq_false c8; clear c8; obtain rfl := Option.some.inj H; go_wp2
       go_ret
       exact ⟨xq2, belA⟩
 · replace c3 := Bool.eq_false_iff.mpr c3; subst c3; have H1 : (some (-1)) = some r := by rw [if_neg (show ¬ (false = true) by decide)] at H; exact H
   clear H; have H := H1; clear H1; obtain rfl := Option.some.inj H; go_enter Try.func20, Try.ntmps20
   go_wp2_with (first | ((with_reducible refine gate_dst (N := 1) rfl ?_); refine boxA 1 #[.int .i64 a0_0, .int .i64 a0_1, .slice A0_2 l0_2.length c0_2] 26 ?_; intro gb424 hg w14 hbox hb; have BK424 := Aside0.mk hbox; have GW424 := leA (w := w) hg; have GE424 := leA (w := w) hg; replace HB := bS hb; clear hb hbox hg; obtain ⟨hcz15_0, hcz15_1, hcz15_2, hfz15_0, hfz15_1, hfz15_2⟩ := cel3 BK424) | ((with_reducible refine gate_callee (f := 72) rfl ?_); refine goesL_ (some 7) rfl rfl Try.func72 (by kernel_rfl) rfl #[.agg #[.int .i64 a0_0, .int .i64 a0_1, .slice A0_2 l0_2.length c0_2]] rfl xq1 ?_; (with_reducible refine (impl_isPlan.calls k a0_0 a0_1 _ _ l0_2 false _ ?side1 ?side2 A2.out).mono ?_); (case side1 => exact cA (Kd.C_below HR0_2.out HB.out)); (case side2 => exact HC0_2.out); rintro e w16 ⟨rfl, hb⟩; refine ⟨_, rfl, ?_⟩; replace BK424 := bB BK424 hb; replace HB := bS hb; (try clear hb); (try clear hb2); (try clear hk); (try clear hi)))
   go_ret
   exact ⟨xq2, belA⟩

/-! ### laws_FnPlanAny: function 3 -/
def laws_FnPlanAny.l0 : Nat → List Int → List Int → List Int → Int → Int → Int → Int → List (S36) → Option (Bool)
 | 0, _, _, _, _, _, _, _, _ => none
 | k + 1, x4, x7, x8, x9, x10, x438000, x438001, x438002 => if x10 < (x438002.length : Int) then (if 0 ≤ x10 then ((impl_RunStep.f k x438000 x8 ((rd_T36 x438002 x10).f0) ((rd_T36 x438002 x10).f1) ((rd_T36 x438002 x10).f2)).bind fun bt452 => (if bt452.2 = true then ((impl_StepCost.f ((rd_T36 x438002 x10).f0) ((rd_T36 x438002 x10).f1) ((rd_T36 x438002 x10).f2)).bind fun t457 => (laws_FnPlanAny.l0 k x4 x7 bt452.1 (wrap64 (x9 + t457)) (wrap64 (x10 + 1)) x438000 x438001 x438002)) else (some false))) else (none)) else ((laws_cpPlan.f k x438000 x438001 x438002).bind fun bt458 => ((laws_cp.f k x4).bind fun t463 => ((impl_RunPlan.f k bt458.1 bt458.2.1 bt458.2.2 t463).bind fun bt466 => (if bt466.2 = true then ((laws_same.f k x8 x7).bind fun t470 => (if t470 = true then ((laws_same.f k bt466.1 x7).bind fun t471 => (if t471 = true then ((laws_cpPlan.f k x438000 x438001 x438002).bind fun bt472 => ((impl_PlanCost.f k bt472.1 bt472.2.1 bt472.2.2).bind fun t477 => (some (x9 == t477)))) else (some false))) else (some false))) else (some false)))))
def laws_FnPlanAny.f (k : Nat) (l0 : List Int) : Option (Bool) := (laws_big.f l0).bind fun t428 => (if t428 = true then (some true) else ((spec_DrawRunPlan.f k l0).bind fun bt429 => ((spec_RunPlan.f k bt429.1 bt429.2.1 bt429.2.2.1 bt429.2.2.2).bind fun bt438 => (if bt438.2 = true then ((spec_Forward.f k bt429.1 bt429.2.2.2).bind fun t442 => ((laws_cp.f k bt429.2.2.2).bind fun t445 => ((impl_Permute.f k t445).bind fun t448 => (laws_FnPlanAny.l0 k bt429.2.2.2 t442 t448 0 0 bt429.1 bt429.2.1 bt429.2.2.1)))) else (some true)))))
theorem laws_FnPlanAny.mono_l : ∀ k, (∀ y0 y1 y2 y3 y4 y5 y6 y7, LeO (laws_FnPlanAny.l0 k y0 y1 y2 y3 y4 y5 y6 y7) (laws_FnPlanAny.l0 (k + 1) y0 y1 y2 y3 y4 y5 y6 y7))
 | 0 => fun _ _ _ _ _ _ _ _ r h => by simp [laws_FnPlanAny.l0] at h
 | k + 1 => by
  have ih0 := laws_FnPlanAny.mono_l k
  · intro y0 y1 y2 y3 y4 y5 y6 y7
    unfold laws_FnPlanAny.l0
    repeat' first
    | (with_reducible exact ih0 _ _ _ _ _ _ _ _)
    | (with_reducible exact impl_Permute.mono _ _)
    | (with_reducible exact impl_PlanCost.mono _ _ _ _)
    | (with_reducible exact impl_RunPlan.mono _ _ _ _ _)
    | (with_reducible exact impl_RunStep.mono _ _ _ _ _ _)
    | (with_reducible exact laws_cp.mono _ _)
    | (with_reducible exact laws_cpPlan.mono _ _ _ _)
    | (with_reducible exact laws_same.mono _ _ _)
    | (with_reducible exact spec_DrawRunPlan.mono _ _)
    | (with_reducible exact spec_Forward.mono _ _ _)
    | (with_reducible exact spec_RunPlan.mono _ _ _ _ _)
    | (with_reducible exact LeO.refl _)
    | (with_reducible exact LeO.none _)
    | (with_reducible refine LeO.ite ?_ ?_)
    | (with_reducible refine LeO.bind ?_ (fun _ => ?_))
    | exact ih0 _ _ _ _ _ _ _ _
    | exact impl_Permute.mono _ _
    | exact impl_PlanCost.mono _ _ _ _
    | exact impl_RunPlan.mono _ _ _ _ _
    | exact impl_RunStep.mono _ _ _ _ _ _
    | exact laws_cp.mono _ _
    | exact laws_cpPlan.mono _ _ _ _
    | exact laws_same.mono _ _ _
    | exact spec_DrawRunPlan.mono _ _
    | exact spec_Forward.mono _ _ _
    | exact spec_RunPlan.mono _ _ _ _ _
    | exact LeO.none _
    | refine LeO.ite ?_ ?_
    | refine LeO.bind ?_ (fun _ => ?_)
theorem laws_FnPlanAny.mono : ∀ a0 k, LeO (laws_FnPlanAny.f k a0) (laws_FnPlanAny.f (k + 1) a0) := by
 intro a0 k; have ih0 := laws_FnPlanAny.mono_l k
 unfold laws_FnPlanAny.f
 repeat' first
  | (with_reducible exact ih0 _ _ _ _ _ _ _ _)
  | (with_reducible exact impl_Permute.mono _ _)
  | (with_reducible exact impl_PlanCost.mono _ _ _ _)
  | (with_reducible exact impl_RunPlan.mono _ _ _ _ _)
  | (with_reducible exact impl_RunStep.mono _ _ _ _ _ _)
  | (with_reducible exact laws_cp.mono _ _)
  | (with_reducible exact laws_cpPlan.mono _ _ _ _)
  | (with_reducible exact laws_same.mono _ _ _)
  | (with_reducible exact spec_DrawRunPlan.mono _ _)
  | (with_reducible exact spec_Forward.mono _ _ _)
  | (with_reducible exact spec_RunPlan.mono _ _ _ _ _)
  | (with_reducible exact LeO.refl _)
  | (with_reducible exact LeO.none _)
  | (with_reducible refine LeO.ite ?_ ?_)
  | (with_reducible refine LeO.bind ?_ (fun _ => ?_))
  | exact ih0 _ _ _ _ _ _ _ _
  | exact impl_Permute.mono _ _
  | exact impl_PlanCost.mono _ _ _ _
  | exact impl_RunPlan.mono _ _ _ _ _
  | exact impl_RunStep.mono _ _ _ _ _ _
  | exact laws_cp.mono _ _
  | exact laws_cpPlan.mono _ _ _ _
  | exact laws_same.mono _ _ _
  | exact spec_DrawRunPlan.mono _ _
  | exact spec_Forward.mono _ _ _
  | exact spec_RunPlan.mono _ _ _ _ _
  | exact LeO.none _
  | refine LeO.ite ?_ ?_
  | refine LeO.bind ?_ (fun _ => ?_)
def laws_FnPlanAny.T13 : Bool × List (List Nat × List Nat) := (true, [([], []), ([0], [0]), ([], []), ([], []), ([3], [3]), ([], []), ([4, 5], [4, 5]), ([6], [6]), ([1, 2, 7], [1, 2, 7]), ([8], [8]), ([9], [9]), ([9], [9]), ([10, 8, 0, 1, 2, 3, 4, 5, 6, 7, 8, 9, 10], [10]), ([11, 12, 0, 1, 2, 3, 4, 5, 6, 7, 8, 9, 10, 11, 12], [11])])
def laws_FnPlanAny.B13 : List Nat := [0, 1, 0, 0, 8, 0, 56, 120, 255, 511, 1023, 1023, 2047, 8191]
theorem laws_FnPlanAny.tab13 : rtab .any (opsOf Try.f3 13) = laws_FnPlanAny.T13 := by kernel_rfl
theorem laws_FnPlanAny.bits13 : waitsOk laws_FnPlanAny.T13.2 laws_FnPlanAny.B13 = true := by kernel_rfl
set_option maxHeartbeats 8000000 in
set_option maxRecDepth 100000 in
theorem laws_FnPlanAny.calls (k : Nat) (A0 : Option Addr) (c0 : Nat) (l0 : List Int) (r : Bool) (w : World) (hr0 : Kd.C (Kd.int .u8) w A0 l0.length l0) (hc0 : l0.length ≤ c0) (h : laws_FnPlanAny.f k l0 = some r) :
 Calls Try.prog 3 #[.slice A0 l0.length c0] w fun e w' => e = .returned (.bool r) ∧ Below w.heap.size w w' := by
 have hu26 := Try.underlying26; have hu36 := Try.underlying36; have HR0 := Aside0.mk hr0; have HC0 := Aside0.mk hc0; clear hr0 hc0; have HB := Aside0.mk (Below.refl w.heap.size w); have H : ((laws_big.f l0).bind fun t428 => (if t428 = true then (some true) else ((spec_DrawRunPlan.f k l0).bind fun bt429 => ((spec_RunPlan.f k bt429.1 bt429.2.1 bt429.2.2.1 bt429.2.2.2).bind fun bt438 => (if bt438.2 = true then ((spec_Forward.f k bt429.1 bt429.2.2.2).bind fun t442 => ((laws_cp.f k bt429.2.2.2).bind fun t445 => ((impl_Permute.f k t445).bind fun t448 => (laws_FnPlanAny.l0 k bt429.2.2.2 t442 t448 0 0 bt429.1 bt429.2.1 bt429.2.2.1)))) else (some true)))))) = some r := h; clear h; replace H := Option.bind_eq_some_iff.mp H; obtain ⟨t428, A20, H⟩ := H; replace H : (if t428 = true then (some true) else ((spec_DrawRunPlan.f k l0).bind fun bt429 => ((spec_RunPlan.f k bt429.1 bt429.2.1 bt429.2.2.1 bt429.2.2.2).bind fun bt438 => (if bt438.2 = true then ((spec_Forward.f k bt429.1 bt429.2.2.2).bind fun t442 => ((laws_cp.f k bt429.2.2.2).bind fun t445 => ((impl_Permute.f k t445).bind fun t448 => (laws_FnPlanAny.l0 k bt429.2.2.2 t442 t448 0 0 bt429.1 bt429.2.1 bt429.2.2.1)))) else (some true))))) = some r := H
 have A2 := Aside0.mk A20; clear A20
 by_cases c3 : t428 = true
 · subst c3; have H1 : (some true) = some r := by rw [if_pos rfl] at H; exact H
   clear H; have H := H1; clear H1; obtain rfl := Option.some.inj H; go_enter Try.func3, Try.ntmps3
   go_wp2_with (first | ((with_reducible refine gate_callee (f := 9) rfl ?_); refine goesL_ (some 16) rfl rfl Try.func9 (by kernel_rfl) rfl #[.slice A0 l0.length c0] rfl xq1 ?_; (with_reducible refine (laws_big.calls _ _ l0 true _ ?side1 ?side2 A2.out).mono ?_); (case side1 => exact cA HR0.out); (case side2 => exact HC0.out); rintro e w' ⟨rfl, ⟨nd, rfl⟩⟩; refine ⟨_, rfl, ?_⟩))
   go_ret
   exact ⟨xq2, belA⟩
 · replace c3 := Bool.eq_false_iff.mpr c3; subst c3; have H1 : ((spec_DrawRunPlan.f k l0).bind fun bt429 => ((spec_RunPlan.f k bt429.1 bt429.2.1 bt429.2.2.1 bt429.2.2.2).bind fun bt438 => (if bt438.2 = true then ((spec_Forward.f k bt429.1 bt429.2.2.2).bind fun t442 => ((laws_cp.f k bt429.2.2.2).bind fun t445 => ((impl_Permute.f k t445).bind fun t448 => (laws_FnPlanAny.l0 k bt429.2.2.2 t442 t448 0 0 bt429.1 bt429.2.1 bt429.2.2.1)))) else (some true)))) = some r := by rw [if_neg (show ¬ (false = true) by decide)] at H; exact H
   clear H; have H := H1; clear H1; replace H := Option.bind_eq_some_iff.mp H; obtain ⟨⟨t429, t430, t431, t434⟩, A40, H⟩ := H; replace H : ((spec_RunPlan.f k t429 t430 t431 t434).bind fun bt438 => (if bt438.2 = true then ((spec_Forward.f k t429 t434).bind fun t442 => ((laws_cp.f k t434).bind fun t445 => ((impl_Permute.f k t445).bind fun t448 => (laws_FnPlanAny.l0 k t434 t442 t448 0 0 t429 t430 t431)))) else (some true))) = some r := H
   have A4 := Aside0.mk A40; clear A40; replace H := Option.bind_eq_some_iff.mp H; obtain ⟨⟨t438, t441⟩, A50, H⟩ := H; replace H : (if t441 = true then ((spec_Forward.f k t429 t434).bind fun t442 => ((laws_cp.f k t434).bind fun t445 => ((impl_Permute.f k t445).bind fun t448 => (laws_FnPlanAny.l0 k t434 t442 t448 0 0 t429 t430 t431)))) else (some true)) = some r := H
   have A5 := Aside0.mk A50; clear A50
   by_cases c6 : t441 = true
   · subst c6; have H1 : ((spec_Forward.f k t429 t434).bind fun t442 => ((laws_cp.f k t434).bind fun t445 => ((impl_Permute.f k t445).bind fun t448 => (laws_FnPlanAny.l0 k t434 t442 t448 0 0 t429 t430 t431)))) = some r := by rw [if_pos rfl] at H; exact H
     clear H; have H := H1; clear H1; replace H := Option.bind_eq_some_iff.mp H; obtain ⟨t442, A70, H⟩ := H; replace H : ((laws_cp.f k t434).bind fun t445 => ((impl_Permute.f k t445).bind fun t448 => (laws_FnPlanAny.l0 k t434 t442 t448 0 0 t429 t430 t431))) = some r := H
     have A7 := Aside0.mk A70; clear A70; replace H := Option.bind_eq_some_iff.mp H; obtain ⟨t445, A80, H⟩ := H; replace H : ((impl_Permute.f k t445).bind fun t448 => (laws_FnPlanAny.l0 k t434 t442 t448 0 0 t429 t430 t431)) = some r := H
     have A8 := Aside0.mk A80; clear A80; replace H := Option.bind_eq_some_iff.mp H; obtain ⟨t448, A90, H⟩ := H; replace H : (laws_FnPlanAny.l0 k t434 t442 t448 0 0 t429 t430 t431) = some r := H
     have A9 := Aside0.mk A90; clear A90; have H' := Aside0.mk H; clear H; go_enter Try.func3, Try.ntmps3
     go_wp2_with (first | ((with_reducible refine gate_callee (f := 9) rfl ?_); refine goesL_ (some 16) rfl rfl Try.func9 (by kernel_rfl) rfl #[.slice A0 l0.length c0] rfl xq1 ?_; (with_reducible refine (laws_big.calls _ _ l0 false _ ?side1 ?side2 A2.out).mono ?_); (case side1 => exact cA HR0.out); (case side2 => exact HC0.out); rintro e w' ⟨rfl, ⟨nd, rfl⟩⟩; refine ⟨_, rfl, ?_⟩) | ((with_reducible refine gate_callee (f := 10) rfl ?_); refine goesL_ (some 19) rfl rfl Try.func10 (by kernel_rfl) rfl #[.slice A0 l0.length c0] rfl xq1 ?_; (with_reducible refine (spec_DrawRunPlan.calls k _ _ l0 t429 t430 t431 t434 _ ?side1 ?side2 A4.out).mono ?_); (case side1 => exact cA HR0.out); (case side2 => exact HC0.out); rintro e w10 ⟨v432, v435, rfl, ho0, ho1, hb⟩; refine ⟨_, rfl, ?_⟩; have HO433 := qL ho0; have HO436 := rL ho1; replace HB := bS hb; (try clear hb); (try clear hb2); (try clear hk); (try clear hi); (try clear ho0); (try clear ho1)) | ((with_reducible refine gate_dst (N := 3) rfl ?_); refine boxA 3 #[.int .i64 0, .int .i64 0, .slice none 0 0] 26 ?_; intro gb437 hg w11 hbox hb; have BK437 := Aside0.mk hbox; have GW437 := leA (w := w) hg; have GE437 := leA (w := w) hg; replace HO433 := qB HO433 hb; replace HO436 := rB HO436 hb; replace HB := bS hb; clear hb hbox hg; obtain ⟨hcz12_0, hcz12_1, hcz12_2, hfz12_0, hfz12_1, hfz12_2⟩ := cel3 BK437; obtain ⟨Ao13, co13, eo13, _⟩ := Kd.Q_slice HO433.out; subst eo13; obtain ⟨Ao14, co14, eo14⟩ := Kd.R_slice HO436.out; subst eo14) | ((with_reducible refine gate_callee (f := 11) rfl ?_); refine goesL_ (some 25) rfl rfl Try.func11 (by kernel_rfl) rfl #[.agg #[.int .i64 t429, .int .i64 t430, .slice Ao13 t431.length co13], .slice Ao14 t434.length co14] rfl xq1 ?_; (with_reducible refine (spec_RunPlan.calls k t429 t430 _ _ t431 _ _ t434 t438 true _ ?side1 ?side2 ?side3 ?side4 A5.out).mono ?_); (case side1 => refine (Kd.Q_reads' (e := 36) (base := w.heap.size) (ok := fun k_ => True) (n := t431.length) (c := co13) ?_).2.2; exact (qE (Kd.Q_mono (Kd.Q_far (p := ⟨gb437, 2, none⟩) (Kd.Q_far (p := ⟨gb437, 1, none⟩) (Kd.Q_far (p := ⟨gb437, 0, none⟩) (Kd.Q_types HO433.out BK437.out (by decide)) (fun _ hk => hk.2) (.int .i64 t429)) (fun _ hk => hk.2) (.int .i64 t430)) (fun _ hk => hk.2) (.slice Ao13 t431.length co13)) (fun _ h_ => h_.1)))); (case side2 => exact (Kd.Q_reads' HO433.out).2.1); (case side3 => refine (Kd.R_reads' (e := 3) (base := w.heap.size) (ok := fun k_ => True) (n := t434.length) (c := co14) ?_).2.2; exact (rE (Kd.R_mono (Kd.R_far (p := ⟨gb437, 2, none⟩) (Kd.R_far (p := ⟨gb437, 1, none⟩) (Kd.R_far (p := ⟨gb437, 0, none⟩) (Kd.R_types HO436.out BK437.out (by decide)) (fun _ hk => hk.2) (.int .i64 t429)) (fun _ hk => hk.2) (.int .i64 t430)) (fun _ hk => hk.2) (.slice Ao13 t431.length co13)) (fun _ h_ => h_.1)))); (case side4 => exact (Kd.R_reads' HO436.out).2.1); rintro e w15 ⟨v439, rfl, ho0, hb⟩; refine ⟨_, rfl, ?_⟩; have HO440 := Aside0.mk (Kd.R_lower (Kd.R_new' ho0 (Kd.R_lt (rE (Kd.R_mono (Kd.R_far (p := ⟨gb437, 2, none⟩) (Kd.R_far (p := ⟨gb437, 1, none⟩) (Kd.R_far (p := ⟨gb437, 0, none⟩) (Kd.R_types HO436.out BK437.out (by decide)) (fun _ hk => hk.2) (.int .i64 t429)) (fun _ hk => hk.2) (.int .i64 t430)) (fun _ hk => hk.2) (.slice Ao13 t431.length co13)) (fun _ h_ => h_.1))))) (below_size belA)); replace HO433 := Aside0.mk (Kd.Q_below (qE (Kd.Q_mono (Kd.Q_far (p := ⟨gb437, 2, none⟩) (Kd.Q_far (p := ⟨gb437, 1, none⟩) (Kd.Q_far (p := ⟨gb437, 0, none⟩) (Kd.Q_types HO433.out BK437.out (by decide)) (fun _ hk => hk.2) (.int .i64 t429)) (fun _ hk => hk.2) (.int .i64 t430)) (fun _ hk => hk.2) (.slice Ao13 t431.length co13)) (fun _ h_ => h_.1))) hb); replace HO436 := Aside0.mk (Kd.R_elder' (rE (Kd.R_mono (Kd.R_far (p := ⟨gb437, 2, none⟩) (Kd.R_far (p := ⟨gb437, 1, none⟩) (Kd.R_far (p := ⟨gb437, 0, none⟩) (Kd.R_types HO436.out BK437.out (by decide)) (fun _ hk => hk.2) (.int .i64 t429)) (fun _ hk => hk.2) (.int .i64 t430)) (fun _ hk => hk.2) (.slice Ao13 t431.length co13)) (fun _ h_ => h_.1))) (Kd.R_base ho0) hb); replace BK437 := Aside0.mk (blk_below (g := gb437) (o := .cells #[.int .i64 t429, .int .i64 t430, .slice Ao13 t431.length co13] 26 (0, 0)) xq54 hb); replace HB := bS hb; (try clear hb); (try clear hb2); (try clear hk); (try clear hi); (try clear ho0); obtain ⟨hcz16_0, hcz16_1, hcz16_2, hfz16_0, hfz16_1, hfz16_2⟩ := cel3 BK437) | ((with_reducible refine gate_callee (f := 12) rfl ?_); refine goesL_ (some 33) rfl rfl Try.func12 (by kernel_rfl) rfl #[.int .i64 t429, .slice Ao14 t434.length co14] rfl xq1 ?_; (with_reducible refine (spec_Forward.calls k t429 _ _ t434 t442 _ ?side1 ?side2 A7.out).mono ?_); (case side1 => exact cA ((Kd.R_reads' HO436.out).2.2)); (case side2 => exact (Kd.R_reads' HO436.out).2.1); rintro e w17 ⟨v443, rfl, ho0, hb⟩; refine ⟨_, rfl, ?_⟩; have HO444 := rL (Kd.R_new' (Kd.R_new' ho0 (rT HO436)) (rT HO440)); replace HO433 := qB HO433 hb; replace HO436 := rD HO436 (Kd.R_base ho0) hb; replace HO440 := rD HO440 (Kd.R_base ho0) hb; replace BK437 := bB BK437 hb; replace HB := bS hb; (try clear hb); (try clear hb2); (try clear hk); (try clear hi); (try clear ho0)) | ((with_reducible refine gate_callee (f := 14) rfl ?_); refine goesL_ (some 35) rfl rfl Try.func14 (by kernel_rfl) rfl #[.slice Ao14 t434.length co14] rfl xq1 ?_; (with_reducible refine (laws_cp.calls k _ _ t434 t445 _ ?side1 ?side2 A8.out).mono ?_); (case side1 => exact cA ((Kd.R_reads' HO436.out).2.2)); (case side2 => exact (Kd.R_reads' HO436.out).2.1); rintro e w18 ⟨v446, rfl, ho0, hb⟩; refine ⟨_, rfl, ?_⟩; have HO447 := rL (Kd.R_new' (Kd.R_new' (Kd.R_new' ho0 (rT HO436)) (rT HO440)) (rT HO444)); replace HO433 := qB HO433 hb; replace HO436 := rD HO436 (Kd.R_base ho0) hb; replace HO440 := rD HO440 (Kd.R_base ho0) hb; replace HO444 := rD HO444 (Kd.R_base ho0) hb; replace BK437 := bB BK437 hb; replace HB := bS hb; (try clear hb); (try clear hb2); (try clear hk); (try clear hi); (try clear ho0); obtain ⟨Ao19, co19, eo19⟩ := Kd.R_slice HO447.out; subst eo19) | ((with_reducible refine gate_callee (f := 13) rfl ?_); refine goesL_ (some 36) rfl rfl Try.func13 (by kernel_rfl) rfl #[.slice Ao19 t445.length co19] rfl xq1 ?_; (with_reducible refine (impl_Permute.calls k _ _ t445 t448 _ ?side1 ?side2 A9.out).mono ?_); (case side1 => exact cA ((Kd.R_reads' HO447.out).2.2)); (case side2 => exact (Kd.R_reads' HO447.out).2.1); rintro e w20 ⟨v449, rfl, ho0, hb⟩; refine ⟨_, rfl, ?_⟩; have HO450 := rL (Kd.R_new' (Kd.R_new' (Kd.R_new' (Kd.R_new' ho0 (rT HO436)) (rT HO440)) (rT HO444)) (rT HO447)); replace HO433 := qB HO433 hb; replace HO436 := rD HO436 (Kd.R_base ho0) hb; replace HO440 := rD HO440 (Kd.R_base ho0) hb; replace HO444 := rD HO444 (Kd.R_base ho0) hb; replace HO447 := rD HO447 (Kd.R_base ho0) hb; replace BK437 := bB BK437 hb; replace HB := bS hb; (try clear hb); (try clear hb2); (try clear hk); (try clear hi); (try clear ho0)))
     go_loopg [8, 9, 10] k (fun kq v8 v9 v10 w' => ∃ (x8_1 : List Int) (x9_1 : Int) (x10_1 : Int), v9 = .int .i64 x9_1 ∧ v10 = .int .i64 x10_1 ∧ Aside0 (laws_FnPlanAny.l0 kq t434 t442 x8_1 x9_1 x10_1 t429 t430 t431 = some r) ∧ Aside0 (kq ≤ k) ∧ Aside0 (Kd.R (Kd.int .i64) 3 w' w.heap.size (fun k_ => some k_ ≠ (v443 : Value).ownBlock ∧ some k_ ≠ (v8 : Value).ownBlock) (.slice Ao14 t434.length co14) t434) ∧ Aside0 (Kd.R (Kd.int .i64) 3 w' w.heap.size (fun k_ => some k_ ≠ ((.slice Ao14 t434.length co14) : Value).ownBlock ∧ some k_ ≠ (v8 : Value).ownBlock) v443 t442) ∧ Aside0 (Kd.R (Kd.int .i64) 3 w' w.heap.size (fun k_ => some k_ ≠ ((.slice Ao14 t434.length co14) : Value).ownBlock ∧ some k_ ≠ (v443 : Value).ownBlock) v8 x8_1) ∧ Aside0 (Kd.Q k36 36 w' w.heap.size (fun _ => True) (.slice Ao13 t431.length co13) t431) ∧ Aside0 (w'.heap[gb437]? = some (.cells #[.int .i64 t429, .int .i64 t430, (.slice Ao13 t431.length co13)] 26 (0, 0))) ∧ Aside0 (Below w.heap.size w w'))
     case atStart => exact ⟨(t448), (0), (0), eqA, eqA, H', ⟨Nat.le_refl _⟩, ⟨rE (Kd.R_mono HO436.out (fun _ hk => ⟨hk.1.1.2, hk.2⟩))⟩, ⟨rE (Kd.R_mono HO444.out (fun _ hk => ⟨hk.1.1.1.2, hk.2⟩))⟩, ⟨rE (Kd.R_mono HO450.out (fun _ hk => ⟨hk.1.1.1.2, hk.1.2⟩))⟩, ⟨qA HO433⟩, ⟨blkA⟩, ⟨belA⟩⟩
     case round =>
      clear H'; obtain ⟨x8_1, x9_1, x10_1, rfl, rfl, HA, HK1, HO_4, HO_7, HO_8, HO_438002, BK437, HB⟩ := hrel
      cases gk with
      | zero => exact absurd HA.out (by simp [laws_FnPlanAny.l0])
      | succ k1 =>
       have H := HA.out; clear HA; simp only [laws_FnPlanAny.l0] at H
       by_cases c21 : x10_1 < (t431.length : Int)
       · rw [if_pos c21] at H; have c21b0 := decide_eq_true c21; clear c21
         by_cases c22 : 0 ≤ x10_1
         · rw [if_pos c22] at H; have c22b0 := decide_eq_true c22; clear c22; replace H := Option.bind_eq_some_iff.mp H; obtain ⟨⟨t452, t455⟩, A230, H⟩ := H; replace H : (if t455 = true then ((impl_StepCost.f ((rd_T36 t431 x10_1).f0) ((rd_T36 t431 x10_1).f1) ((rd_T36 t431 x10_1).f2)).bind fun t457 => (laws_FnPlanAny.l0 k1 t434 t442 t452 (wrap64 (x9_1 + t457)) (wrap64 (x10_1 + 1)) t429 t430 t431)) else (some false)) = some r := H
           have A23 := Aside0.mk A230; clear A230
           by_cases c24 : t455 = true
           · subst c24; have H1 : ((impl_StepCost.f ((rd_T36 t431 x10_1).f0) ((rd_T36 t431 x10_1).f1) ((rd_T36 t431 x10_1).f2)).bind fun t457 => (laws_FnPlanAny.l0 k1 t434 t442 t452 (wrap64 (x9_1 + t457)) (wrap64 (x10_1 + 1)) t429 t430 t431)) = some r := by rw [if_pos rfl] at H; exact H
             clear H; have H := H1; clear H1; replace H := Option.bind_eq_some_iff.mp H; obtain ⟨t457, A250, H⟩ := H; replace H : (laws_FnPlanAny.l0 k1 t434 t442 t452 (wrap64 (x9_1 + t457)) (wrap64 (x10_1 + 1)) t429 t430 t431) = some r := H
             have A25 := Aside0.mk A250; clear A250; have H' := Aside0.mk H; clear H; obtain ⟨hcz26_0, hcz26_1, hcz26_2, hfz26_0, hfz26_1, hfz26_2⟩ := cel3 BK437; try go_wp2
             replace HO_4 := Aside0.mk (Kd.R_drew HO_4.out); replace HO_7 := Aside0.mk (Kd.R_drew HO_7.out); replace HO_8 := Aside0.mk (Kd.R_drew HO_8.out); replace HO_438002 := Aside0.mk (Kd.Q_drew HO_438002.out); replace BK437 := Aside0.mk (blk_drew BK437.out); replace HB := Aside0.mk (below_drew1 HB.out); have p451 : 0 ≤ (x10_1 : Int) := odA; have q451 : x10_1 < (t431.length : Int) := odA; obtain ⟨ad451, e451, hx451_0, hx451_1, hx451_2⟩ := at_T36 (Kd.Q_reads' HO_438002.out).2.2 x10_1 p451 q451
             cases e451
             replace p451 := eq_true p451; replace q451 := eq_true q451; obtain ⟨Ao28, co28, eo28⟩ := Kd.R_slice HO_8.out; (first | subst eo28 | (injection eo28 with f1_ f2_ f3_; have f4_ := f1_.symm; have f5_ := f3_.symm; clear f1_ f2_ f3_; subst f4_; subst f5_))
             refine start_ (n := 14) (S := fun w' => w'.cell? ⟨gb437, 0, none⟩ = some (.int .i64 t429) ∧ w'.cell? ⟨gb437, 1, none⟩ = some (.int .i64 t430) ∧ w'.cell? ⟨gb437, 2, none⟩ = some (.slice (some ad451) t431.length co13) ∧ w'.cell? (ad451.add ((x10_1).toNat * 3)) = some (.int .i64 ((rd_T36 t431 x10_1).f0)) ∧ w'.cell? ⟨(ad451.add ((x10_1).toNat * 3)).block, (ad451.add ((x10_1).toNat * 3)).off + 1, none⟩ = some (.int .i64 ((rd_T36 t431 x10_1).f1)) ∧ w'.cell? ⟨(ad451.add ((x10_1).toNat * 3)).block, (ad451.add ((x10_1).toNat * 3)).off + 2, none⟩ = some (.int .i64 ((rd_T36 t431 x10_1).f2))) (ds := []) #[false, false, false, false, false, false, false, false, false, false, false, false, false, false] (by kernel_rfl) rfl rfl ⟨(blk_cell BK437.out 0).trans rfl, (blk_cell BK437.out 1).trans rfl, (blk_cell BK437.out 2).trans rfl, hx451_0, hx451_1, hx451_2⟩ (fun hHeld => ?_); refine with_tabW laws_FnPlanAny.tab13 laws_FnPlanAny.bits13 (fun HT_ HW_ => ?_)
             generalize wr.drew = w27 at HO_4 HO_7 HO_8 HO_438002 BK437 HB hx451_0 hx451_1 hx451_2 hHeld ⊢
             refine pure_ (i := 0) (N := some 45) (v := ?_) (a' := ?_) #[true, false, false, false, false, false, false, false, false, false, false, false, false, false] rfl rfl (any_of HT_.out (by kernel_rfl)) (fun _ _ _ h => h) (Or.inl ⟨by rfl, ?_⟩) ?_ ?_
             rotate_left
             · intro w'; go_simp
               with_reducible rfl
             rotate_left
             · simp only [Act.put, sa, sb, sc, i64_w, i32_w]
               rfl
             refine pure_ (i := 2) (N := some 47) (v := ?_) (a' := ?_) #[true, false, true, false, false, false, false, false, false, false, false, false, false, false] rfl rfl (any_of HT_.out (by kernel_rfl)) (fun _ _ _ h => h) (Or.inl ⟨by rfl, ?_⟩) ?_ ?_
             rotate_left
             · intro w'; go_simp
               with_reducible rfl
             rotate_left
             · simp only [Act.put, sa, sb, sc, i64_w, i32_w]
               rfl
             refine pure_ (i := 3) (N := some 48) (v := ?_) (a' := ?_) #[true, false, true, true, false, false, false, false, false, false, false, false, false, false] rfl rfl (any_of HT_.out (by kernel_rfl)) (fun _ _ _ h => h) (Or.inl ⟨by rfl, ?_⟩) ?_ ?_
             rotate_left
             · intro w'; go_simp
               with_reducible rfl
             rotate_left
             · simp only [Act.put, sa, sb, sc, i64_w, i32_w]
               rfl
             refine pure_ (i := 5) (N := some 50) (v := ?_) (a' := ?_) #[true, false, true, true, false, true, false, false, false, false, false, false, false, false] rfl rfl (any_of HT_.out (by kernel_rfl)) (fun _ _ _ h => h) (Or.inl ⟨by rfl, ?_⟩) ?_ ?_
             rotate_left
             · intro w'; go_simp
               with_reducible rfl
             rotate_left
             · simp only [Act.put, sa, sb, sc, i64_w, i32_w]
               rfl
             refine take_ (i := 1) (N := some 46) (v := ?_) (a' := ?_) #[true, true, true, true, false, true, false, false, false, false, false, false, false, false] rfl rfl (take_ofW HT_.out HW_.out (by kernel_rfl)) (fun _ _ _ h => h) (Or.inl ⟨by rfl, ?_⟩) hHeld ?_ ?_
             rotate_left
             · rintro w' ⟨s0, s1, s2, s3, s4, s5⟩
               go_simp
               with_reducible rfl
             rotate_left
             · simp only [Act.put, sa, sb, sc, i64_w, i32_w]
               rfl
             refine take_ (i := 4) (N := some 49) (v := ?_) (a' := ?_) #[true, true, true, true, true, true, false, false, false, false, false, false, false, false] rfl rfl (take_ofW HT_.out HW_.out (by kernel_rfl)) (fun _ _ _ h => h) (Or.inl ⟨by rfl, ?_⟩) hHeld ?_ ?_
             rotate_left
             · rintro w' ⟨s0, s1, s2, s3, s4, s5⟩
               go_simp
               with_reducible rfl
             rotate_left
             · simp only [Act.put, sa, sb, sc, i64_w, i32_w]
               rfl
             refine pure_ (i := 6) (N := some 51) (v := ?_) (a' := ?_) #[true, true, true, true, true, true, true, false, false, false, false, false, false, false] rfl rfl (any_of HT_.out (by kernel_rfl)) (fun _ _ _ h => h) (Or.inl ⟨by rfl, ?_⟩) ?_ ?_
             rotate_left
             · intro w'; go_simp
               with_reducible rfl
             rotate_left
             · simp only [Act.put, sa, sb, sc, i64_w, i32_w]
               rfl
             refine take_ (i := 7) (N := some 52) (v := ?_) (a' := ?_) #[true, true, true, true, true, true, true, true, false, false, false, false, false, false] rfl rfl (take_ofW HT_.out HW_.out (by kernel_rfl)) (fun _ _ _ h => h) (Or.inl ⟨by rfl, ?_⟩) hHeld ?_ ?_
             rotate_left
             · rintro w' ⟨s0, s1, s2, s3, s4, s5⟩
               go_simp
               with_reducible rfl
             rotate_left
             · simp only [Act.put, sa, sb, sc, i64_w, i32_w]
               rfl
             refine one_ (i := 8) (N := some 53) #[true, true, true, true, true, true, true, true, true, false, false, false, false, false] rfl rfl (one_of HT_.out (by kernel_rfl)) (by decide) (fun K hK => ?_)
             refine goes_ Try.func15 (by kernel_rfl) rfl #[.int .i64 t429, .slice Ao28 x8_1.length co28, .agg #[.int .i64 ((rd_T36 t431 x10_1).f0), .int .i64 ((rd_T36 t431 x10_1).f1), .int .i64 ((rd_T36 t431 x10_1).f2)]] (by rfl) rfl rfl xq1 ?_
             with_reducible refine (impl_RunStep.calls k1 t429 (fun k_ => some k_ = (.slice Ao28 x8_1.length co28 : Value).ownBlock) _ _ x8_1 ((rd_T36 t431 x10_1).f0) ((rd_T36 t431 x10_1).f1) ((rd_T36 t431 x10_1).f2) t452 true _ ?side1 A23.out).mono ?_
             (case side1 => exact xq55)
             rintro e w29 ⟨v453, rfl, ho0, hb⟩
             have HS3_ := (hb.cell (World.block_lt_of_cell? _ _ (hHeld.2.2.2.1))).trans (hHeld.2.2.2.1); have HS4_ := (hb.cell (World.block_lt_of_cell? _ _ (hHeld.2.2.2.2.1))).trans (hHeld.2.2.2.2.1); have HS5_ := (hb.cell (World.block_lt_of_cell? _ _ (hHeld.2.2.2.2.2))).trans (hHeld.2.2.2.2.2); refine ⟨_, rfl, ?_⟩
             have HO454 := rL (Kd.R_new' (Kd.R_new' (Kd.R_new' (Kd.R_mono (ok' := fun k_ => True) ho0 (fun _ hk_ => trivial)) (rT HO_4)) (rT HO_7)) (rT HO_8)); replace HO_4 := rD HO_4 (Kd.R_base ho0) hb; replace HO_7 := rD HO_7 (Kd.R_base ho0) hb; replace HO_8 := rD HO_8 (Kd.R_base ho0) hb; replace HO_438002 := qB HO_438002 hb; replace BK437 := bB BK437 hb; replace HB := bS hb; (try clear hb); (try clear hb2); (try clear hk); (try clear hi); (try clear ho0); refine hK.out _ _ ⟨(blk_cell BK437.out 0).trans rfl, (blk_cell BK437.out 1).trans rfl, (blk_cell BK437.out 2).trans rfl, HS3_, HS4_, HS5_⟩ (fun hHeld => ?_)
             clear hK K; refine norm_ (a' := ?_) ?_ ?_
             rotate_left
             · show Act.put _ (some 53) _ = _
               simp only [Act.put, sa, sb, sc, i64_w, i32_w]
               rfl
             refine pure_ (i := 9) (N := some 44) (v := ?_) (a' := ?_) #[true, true, true, true, true, true, true, true, true, true, false, false, false, false] rfl rfl (any_of HT_.out (by kernel_rfl)) (fun _ _ _ h => h) (Or.inl ⟨by rfl, ?_⟩) ?_ ?_
             rotate_left
             · intro w'; go_simp
               with_reducible rfl
             rotate_left
             · simp only [Act.put, sa, sb, sc, i64_w, i32_w]
               rfl
             refine pure_ (i := 10) (N := some 54) (v := ?_) (a' := ?_) #[true, true, true, true, true, true, true, true, true, true, true, false, false, false] rfl rfl (any_of HT_.out (by kernel_rfl)) (fun _ _ _ h => h) (Or.inl ⟨by rfl, ?_⟩) ?_ ?_
             rotate_left
             · intro w'; go_simp
               with_reducible rfl
             rotate_left
             · simp only [Act.put, sa, sb, sc, i64_w, i32_w]
               rfl
             refine pure_ (i := 11) (N := some 55) (v := ?_) (a' := ?_) #[true, true, true, true, true, true, true, true, true, true, true, true, false, false] rfl rfl (any_of HT_.out (by kernel_rfl)) (fun _ _ _ h => h) (Or.inl ⟨by rfl, ?_⟩) ?_ ?_
             rotate_left
             · intro w'; go_simp
               with_reducible rfl
             rotate_left
             · simp only [Act.put, sa, sb, sc, i64_w, i32_w]
               rfl
             refine pure_ (i := 12) (N := some 11) (v := ?_) (a' := ?_) #[true, true, true, true, true, true, true, true, true, true, true, true, true, false] rfl rfl (any_of HT_.out (by kernel_rfl)) (fun _ _ _ h => h) (Or.inl ⟨by rfl, ?_⟩) ?_ ?_
             rotate_left
             · intro w'; go_simp
               with_reducible rfl
             rotate_left
             · simp only [Act.put, sa, sb, sc, i64_w, i32_w]
               rfl
             refine pure_ (i := 13) (N := some 12) (v := ?_) (a' := ?_) #[true, true, true, true, true, true, true, true, true, true, true, true, true, true] rfl rfl (any_of HT_.out (by kernel_rfl)) (fun _ _ _ h => h) (Or.inl ⟨by rfl, ?_⟩) ?_ ?_
             rotate_left
             · intro w'; go_simp
               with_reducible rfl
             rotate_left
             · simp only [Act.put, sa, sb, sc, i64_w, i32_w]
               rfl
             refine done_ (done_of HT_.out (by kernel_rfl)) ?_
             obtain ⟨hcz30_0, hcz30_1, hcz30_2, hfz30_0, hfz30_1, hfz30_2⟩ := cel3 BK437; have p456 : 0 ≤ (x10_1 : Int) := odA; have q456 : x10_1 < (t431.length : Int) := odA; obtain ⟨ad456, e456, hx456_0, hx456_1, hx456_2⟩ := at_T36 (Kd.Q_reads' HO_438002.out).2.2 x10_1 p456 q456; obtain rfl : ad451 = ad456 := (by injection e456); replace p456 := eq_true p456; replace q456 := eq_true q456; try go_wp2_with (first | ((with_reducible refine gate_callee (f := 16) rfl ?_); refine goesL_ (some 65) rfl rfl Try.func16 (by kernel_rfl) rfl #[.agg #[.int .i64 ((rd_T36 t431 x10_1).f0), .int .i64 ((rd_T36 t431 x10_1).f1), .int .i64 ((rd_T36 t431 x10_1).f2)]] rfl xq1 ?_; (with_reducible refine (impl_StepCost.calls ((rd_T36 t431 x10_1).f0) ((rd_T36 t431 x10_1).f1) ((rd_T36 t431 x10_1).f2) t457 _ A25.out).mono ?_); rintro e w31 ⟨rfl, hb⟩; refine ⟨_, rfl, ?_⟩; replace HO_4 := rB HO_4 hb; replace HO_7 := rB HO_7 hb; replace HO_8 := rB HO_8 hb; replace HO_438002 := qB HO_438002 hb; replace HO454 := rB HO454 hb; replace BK437 := bB BK437 hb; replace HB := bS hb; (try clear hb); (try clear hb2); (try clear hk); (try clear hi)))
             go_roundg k1
             case measure => have := HK1.out; omega
             case rel => exact ⟨(t452), (wrap64 (x9_1 + t457)), (wrap64 (x10_1 + 1)), eqA, eqA, H', ⟨xq12⟩, ⟨rE (Kd.R_mono HO_4.out (fun _ hk => ⟨hk.1.1, hk.2⟩))⟩, ⟨rE (Kd.R_mono HO_7.out (fun _ hk => ⟨hk.1.1, hk.2⟩))⟩, ⟨rE (Kd.R_mono HO454.out (fun _ hk => ⟨hk.1.1.2, hk.1.2⟩))⟩, ⟨qA HO_438002⟩, ⟨blkA⟩, ⟨belA⟩⟩
           · replace c24 := Bool.eq_false_iff.mpr c24; subst c24; have H1 : (some false) = some r := by rw [if_neg (show ¬ (false = true) by decide)] at H; exact H
             clear H; have H := H1; clear H1; obtain rfl := Option.some.inj H; obtain ⟨hcz32_0, hcz32_1, hcz32_2, hfz32_0, hfz32_1, hfz32_2⟩ := cel3 BK437; try go_wp2
             replace HO_4 := Aside0.mk (Kd.R_drew HO_4.out); replace HO_7 := Aside0.mk (Kd.R_drew HO_7.out); replace HO_8 := Aside0.mk (Kd.R_drew HO_8.out); replace HO_438002 := Aside0.mk (Kd.Q_drew HO_438002.out); replace BK437 := Aside0.mk (blk_drew BK437.out); replace HB := Aside0.mk (below_drew1 HB.out); have p451 : 0 ≤ (x10_1 : Int) := odA; have q451 : x10_1 < (t431.length : Int) := odA; obtain ⟨ad451, e451, hx451_0, hx451_1, hx451_2⟩ := at_T36 (Kd.Q_reads' HO_438002.out).2.2 x10_1 p451 q451
             cases e451
             replace p451 := eq_true p451; replace q451 := eq_true q451; obtain ⟨Ao34, co34, eo34⟩ := Kd.R_slice HO_8.out; (first | subst eo34 | (injection eo34 with f1_ f2_ f3_; have f4_ := f1_.symm; have f5_ := f3_.symm; clear f1_ f2_ f3_; subst f4_; subst f5_))
             refine start_ (n := 14) (S := fun w' => w'.cell? ⟨gb437, 0, none⟩ = some (.int .i64 t429) ∧ w'.cell? ⟨gb437, 1, none⟩ = some (.int .i64 t430) ∧ w'.cell? ⟨gb437, 2, none⟩ = some (.slice (some ad451) t431.length co13) ∧ w'.cell? (ad451.add ((x10_1).toNat * 3)) = some (.int .i64 ((rd_T36 t431 x10_1).f0)) ∧ w'.cell? ⟨(ad451.add ((x10_1).toNat * 3)).block, (ad451.add ((x10_1).toNat * 3)).off + 1, none⟩ = some (.int .i64 ((rd_T36 t431 x10_1).f1)) ∧ w'.cell? ⟨(ad451.add ((x10_1).toNat * 3)).block, (ad451.add ((x10_1).toNat * 3)).off + 2, none⟩ = some (.int .i64 ((rd_T36 t431 x10_1).f2))) (ds := []) #[false, false, false, false, false, false, false, false, false, false, false, false, false, false] (by kernel_rfl) rfl rfl ⟨(blk_cell BK437.out 0).trans rfl, (blk_cell BK437.out 1).trans rfl, (blk_cell BK437.out 2).trans rfl, hx451_0, hx451_1, hx451_2⟩ (fun hHeld => ?_); refine with_tabW laws_FnPlanAny.tab13 laws_FnPlanAny.bits13 (fun HT_ HW_ => ?_)
             generalize wr.drew = w33 at HO_4 HO_7 HO_8 HO_438002 BK437 HB hx451_0 hx451_1 hx451_2 hHeld ⊢
             refine pure_ (i := 0) (N := some 45) (v := ?_) (a' := ?_) #[true, false, false, false, false, false, false, false, false, false, false, false, false, false] rfl rfl (any_of HT_.out (by kernel_rfl)) (fun _ _ _ h => h) (Or.inl ⟨by rfl, ?_⟩) ?_ ?_
             rotate_left
             · intro w'; go_simp
               with_reducible rfl
             rotate_left
             · simp only [Act.put, sa, sb, sc, i64_w, i32_w]
               rfl
             refine pure_ (i := 2) (N := some 47) (v := ?_) (a' := ?_) #[true, false, true, false, false, false, false, false, false, false, false, false, false, false] rfl rfl (any_of HT_.out (by kernel_rfl)) (fun _ _ _ h => h) (Or.inl ⟨by rfl, ?_⟩) ?_ ?_
             rotate_left
             · intro w'; go_simp
               with_reducible rfl
             rotate_left
             · simp only [Act.put, sa, sb, sc, i64_w, i32_w]
               rfl
             refine pure_ (i := 3) (N := some 48) (v := ?_) (a' := ?_) #[true, false, true, true, false, false, false, false, false, false, false, false, false, false] rfl rfl (any_of HT_.out (by kernel_rfl)) (fun _ _ _ h => h) (Or.inl ⟨by rfl, ?_⟩) ?_ ?_
             rotate_left
             · intro w'; go_simp
               with_reducible rfl
             rotate_left
             · simp only [Act.put, sa, sb, sc, i64_w, i32_w]
               rfl
             refine pure_ (i := 5) (N := some 50) (v := ?_) (a' := ?_) #[true, false, true, true, false, true, false, false, false, false, false, false, false, false] rfl rfl (any_of HT_.out (by kernel_rfl)) (fun _ _ _ h => h) (Or.inl ⟨by rfl, ?_⟩) ?_ ?_
             rotate_left
             · intro w'; go_simp
               with_reducible rfl
             rotate_left
             · simp only [Act.put, sa, sb, sc, i64_w, i32_w]
               rfl
             refine take_ (i := 1) (N := some 46) (v := ?_) (a' := ?_) #[true, true, true, true, false, true, false, false, false, false, false, false, false, false] rfl rfl (take_ofW HT_.out HW_.out (by kernel_rfl)) (fun _ _ _ h => h) (Or.inl ⟨by rfl, ?_⟩) hHeld ?_ ?_
             rotate_left
             · rintro w' ⟨s0, s1, s2, s3, s4, s5⟩
               go_simp
               with_reducible rfl
             rotate_left
             · simp only [Act.put, sa, sb, sc, i64_w, i32_w]
               rfl
             refine take_ (i := 4) (N := some 49) (v := ?_) (a' := ?_) #[true, true, true, true, true, true, false, false, false, false, false, false, false, false] rfl rfl (take_ofW HT_.out HW_.out (by kernel_rfl)) (fun _ _ _ h => h) (Or.inl ⟨by rfl, ?_⟩) hHeld ?_ ?_
             rotate_left
             · rintro w' ⟨s0, s1, s2, s3, s4, s5⟩
               go_simp
               with_reducible rfl
             rotate_left
             · simp only [Act.put, sa, sb, sc, i64_w, i32_w]
               rfl
             refine pure_ (i := 6) (N := some 51) (v := ?_) (a' := ?_) #[true, true, true, true, true, true, true, false, false, false, false, false, false, false] rfl rfl (any_of HT_.out (by kernel_rfl)) (fun _ _ _ h => h) (Or.inl ⟨by rfl, ?_⟩) ?_ ?_
             rotate_left
             · intro w'; go_simp
               with_reducible rfl
             rotate_left
             · simp only [Act.put, sa, sb, sc, i64_w, i32_w]
               rfl
             refine take_ (i := 7) (N := some 52) (v := ?_) (a' := ?_) #[true, true, true, true, true, true, true, true, false, false, false, false, false, false] rfl rfl (take_ofW HT_.out HW_.out (by kernel_rfl)) (fun _ _ _ h => h) (Or.inl ⟨by rfl, ?_⟩) hHeld ?_ ?_
             rotate_left
             · rintro w' ⟨s0, s1, s2, s3, s4, s5⟩
               go_simp
               with_reducible rfl
             rotate_left
             · simp only [Act.put, sa, sb, sc, i64_w, i32_w]
               rfl
             refine one_ (i := 8) (N := some 53) #[true, true, true, true, true, true, true, true, true, false, false, false, false, false] rfl rfl (one_of HT_.out (by kernel_rfl)) (by decide) (fun K hK => ?_)
             refine goes_ Try.func15 (by kernel_rfl) rfl #[.int .i64 t429, .slice Ao34 x8_1.length co34, .agg #[.int .i64 ((rd_T36 t431 x10_1).f0), .int .i64 ((rd_T36 t431 x10_1).f1), .int .i64 ((rd_T36 t431 x10_1).f2)]] (by rfl) rfl rfl xq1 ?_
             with_reducible refine (impl_RunStep.calls k1 t429 (fun k_ => some k_ = (.slice Ao34 x8_1.length co34 : Value).ownBlock) _ _ x8_1 ((rd_T36 t431 x10_1).f0) ((rd_T36 t431 x10_1).f1) ((rd_T36 t431 x10_1).f2) t452 false _ ?side1 A23.out).mono ?_
             (case side1 => exact xq55)
             rintro e w35 ⟨v453, rfl, ho0, hb⟩
             have HS3_ := (hb.cell (World.block_lt_of_cell? _ _ (hHeld.2.2.2.1))).trans (hHeld.2.2.2.1); have HS4_ := (hb.cell (World.block_lt_of_cell? _ _ (hHeld.2.2.2.2.1))).trans (hHeld.2.2.2.2.1); have HS5_ := (hb.cell (World.block_lt_of_cell? _ _ (hHeld.2.2.2.2.2))).trans (hHeld.2.2.2.2.2); refine ⟨_, rfl, ?_⟩
             have HO454 := rL (Kd.R_new' (Kd.R_new' (Kd.R_new' (Kd.R_mono (ok' := fun k_ => True) ho0 (fun _ hk_ => trivial)) (rT HO_4)) (rT HO_7)) (rT HO_8)); replace HO_4 := rD HO_4 (Kd.R_base ho0) hb; replace HO_7 := rD HO_7 (Kd.R_base ho0) hb; replace HO_8 := rD HO_8 (Kd.R_base ho0) hb; replace HO_438002 := qB HO_438002 hb; replace BK437 := bB BK437 hb; replace HB := bS hb; (try clear hb); (try clear hb2); (try clear hk); (try clear hi); (try clear ho0); refine hK.out _ _ ⟨(blk_cell BK437.out 0).trans rfl, (blk_cell BK437.out 1).trans rfl, (blk_cell BK437.out 2).trans rfl, HS3_, HS4_, HS5_⟩ (fun hHeld => ?_)
             clear hK K; refine norm_ (a' := ?_) ?_ ?_
             rotate_left
             · show Act.put _ (some 53) _ = _
               simp only [Act.put, sa, sb, sc, i64_w, i32_w]
               rfl
             refine pure_ (i := 9) (N := some 44) (v := ?_) (a' := ?_) #[true, true, true, true, true, true, true, true, true, true, false, false, false, false] rfl rfl (any_of HT_.out (by kernel_rfl)) (fun _ _ _ h => h) (Or.inl ⟨by rfl, ?_⟩) ?_ ?_
             rotate_left
             · intro w'; go_simp
               with_reducible rfl
             rotate_left
             · simp only [Act.put, sa, sb, sc, i64_w, i32_w]
               rfl
             refine pure_ (i := 10) (N := some 54) (v := ?_) (a' := ?_) #[true, true, true, true, true, true, true, true, true, true, true, false, false, false] rfl rfl (any_of HT_.out (by kernel_rfl)) (fun _ _ _ h => h) (Or.inl ⟨by rfl, ?_⟩) ?_ ?_
             rotate_left
             · intro w'; go_simp
               with_reducible rfl
             rotate_left
             · simp only [Act.put, sa, sb, sc, i64_w, i32_w]
               rfl
             refine pure_ (i := 11) (N := some 55) (v := ?_) (a' := ?_) #[true, true, true, true, true, true, true, true, true, true, true, true, false, false] rfl rfl (any_of HT_.out (by kernel_rfl)) (fun _ _ _ h => h) (Or.inl ⟨by rfl, ?_⟩) ?_ ?_
             rotate_left
             · intro w'; go_simp
               with_reducible rfl
             rotate_left
             · simp only [Act.put, sa, sb, sc, i64_w, i32_w]
               rfl
             refine pure_ (i := 12) (N := some 11) (v := ?_) (a' := ?_) #[true, true, true, true, true, true, true, true, true, true, true, true, true, false] rfl rfl (any_of HT_.out (by kernel_rfl)) (fun _ _ _ h => h) (Or.inl ⟨by rfl, ?_⟩) ?_ ?_
             rotate_left
             · intro w'; go_simp
               with_reducible rfl
             rotate_left
             · simp only [Act.put, sa, sb, sc, i64_w, i32_w]
               rfl
             refine pure_ (i := 13) (N := some 12) (v := ?_) (a' := ?_) #[true, true, true, true, true, true, true, true, true, true, true, true, true, true] rfl rfl (any_of HT_.out (by kernel_rfl)) (fun _ _ _ h => h) (Or.inl ⟨by rfl, ?_⟩) ?_ ?_
             rotate_left
             · intro w'; go_simp
               with_reducible rfl
             rotate_left
             · simp only [Act.put, sa, sb, sc, i64_w, i32_w]
               rfl
             refine done_ (done_of HT_.out (by kernel_rfl)) ?_
             try go_wp2
             go_ret
             exact ⟨xq2, belA⟩
         · rw [if_neg c22] at H; exact absurd H (by simp)
       · rw [if_neg c21] at H; have c21b0 := decide_eq_false c21; clear c21; replace H := Option.bind_eq_some_iff.mp H; obtain ⟨⟨t458, t459, t460⟩, A360, H⟩ := H; replace H : ((laws_cp.f k1 t434).bind fun t463 => ((impl_RunPlan.f k1 t458 t459 t460 t463).bind fun bt466 => (if bt466.2 = true then ((laws_same.f k1 x8_1 t442).bind fun t470 => (if t470 = true then ((laws_same.f k1 bt466.1 t442).bind fun t471 => (if t471 = true then ((laws_cpPlan.f k1 t429 t430 t431).bind fun bt472 => ((impl_PlanCost.f k1 bt472.1 bt472.2.1 bt472.2.2).bind fun t477 => (some (x9_1 == t477)))) else (some false))) else (some false))) else (some false)))) = some r := H
         have A36 := Aside0.mk A360; clear A360; replace H := Option.bind_eq_some_iff.mp H; obtain ⟨t463, A370, H⟩ := H; replace H : ((impl_RunPlan.f k1 t458 t459 t460 t463).bind fun bt466 => (if bt466.2 = true then ((laws_same.f k1 x8_1 t442).bind fun t470 => (if t470 = true then ((laws_same.f k1 bt466.1 t442).bind fun t471 => (if t471 = true then ((laws_cpPlan.f k1 t429 t430 t431).bind fun bt472 => ((impl_PlanCost.f k1 bt472.1 bt472.2.1 bt472.2.2).bind fun t477 => (some (x9_1 == t477)))) else (some false))) else (some false))) else (some false))) = some r := H
         have A37 := Aside0.mk A370; clear A370; replace H := Option.bind_eq_some_iff.mp H; obtain ⟨⟨t466, t469⟩, A380, H⟩ := H; replace H : (if t469 = true then ((laws_same.f k1 x8_1 t442).bind fun t470 => (if t470 = true then ((laws_same.f k1 t466 t442).bind fun t471 => (if t471 = true then ((laws_cpPlan.f k1 t429 t430 t431).bind fun bt472 => ((impl_PlanCost.f k1 bt472.1 bt472.2.1 bt472.2.2).bind fun t477 => (some (x9_1 == t477)))) else (some false))) else (some false))) else (some false)) = some r := H
         have A38 := Aside0.mk A380; clear A380
         by_cases c39 : t469 = true
         · subst c39; have H1 : ((laws_same.f k1 x8_1 t442).bind fun t470 => (if t470 = true then ((laws_same.f k1 t466 t442).bind fun t471 => (if t471 = true then ((laws_cpPlan.f k1 t429 t430 t431).bind fun bt472 => ((impl_PlanCost.f k1 bt472.1 bt472.2.1 bt472.2.2).bind fun t477 => (some (x9_1 == t477)))) else (some false))) else (some false))) = some r := by rw [if_pos rfl] at H; exact H
           clear H; have H := H1; clear H1; replace H := Option.bind_eq_some_iff.mp H; obtain ⟨t470, A400, H⟩ := H; replace H : (if t470 = true then ((laws_same.f k1 t466 t442).bind fun t471 => (if t471 = true then ((laws_cpPlan.f k1 t429 t430 t431).bind fun bt472 => ((impl_PlanCost.f k1 bt472.1 bt472.2.1 bt472.2.2).bind fun t477 => (some (x9_1 == t477)))) else (some false))) else (some false)) = some r := H
           have A40 := Aside0.mk A400; clear A400
           by_cases c41 : t470 = true
           · subst c41; have H1 : ((laws_same.f k1 t466 t442).bind fun t471 => (if t471 = true then ((laws_cpPlan.f k1 t429 t430 t431).bind fun bt472 => ((impl_PlanCost.f k1 bt472.1 bt472.2.1 bt472.2.2).bind fun t477 => (some (x9_1 == t477)))) else (some false))) = some r := by rw [if_pos rfl] at H; exact H
             clear H; have H := H1; clear H1; replace H := Option.bind_eq_some_iff.mp H; obtain ⟨t471, A420, H⟩ := H; replace H : (if t471 = true then ((laws_cpPlan.f k1 t429 t430 t431).bind fun bt472 => ((impl_PlanCost.f k1 bt472.1 bt472.2.1 bt472.2.2).bind fun t477 => (some (x9_1 == t477)))) else (some false)) = some r := H
             have A42 := Aside0.mk A420; clear A420
             by_cases c43 : t471 = true
             · subst c43; have H1 : ((laws_cpPlan.f k1 t429 t430 t431).bind fun bt472 => ((impl_PlanCost.f k1 bt472.1 bt472.2.1 bt472.2.2).bind fun t477 => (some (x9_1 == t477)))) = some r := by rw [if_pos rfl] at H; exact H
               clear H; have H := H1; clear H1; replace H := Option.bind_eq_some_iff.mp H; obtain ⟨⟨t472, t473, t474⟩, A440, H⟩ := H; replace H : ((impl_PlanCost.f k1 t472 t473 t474).bind fun t477 => (some (x9_1 == t477))) = some r := H
               have A44 := Aside0.mk A440; clear A440; replace H := Option.bind_eq_some_iff.mp H; obtain ⟨t477, A450, H⟩ := H; replace H : (some (x9_1 == t477)) = some r := H
               have A45 := Aside0.mk A450; clear A450; obtain rfl := Option.some.inj H; obtain ⟨hcz46_0, hcz46_1, hcz46_2, hfz46_0, hfz46_1, hfz46_2⟩ := cel3 BK437; go_wp2_with (first | ((with_reducible refine gate_callee (f := 18) rfl ?_); refine goesL_ (some 69) rfl rfl Try.func18 (by kernel_rfl) rfl #[.agg #[.int .i64 t429, .int .i64 t430, .slice Ao13 t431.length co13]] rfl xq1 ?_; (with_reducible refine (laws_cpPlan.calls k1 t429 t430 _ _ t431 t458 t459 t460 _ ?side1 ?side2 A36.out).mono ?_); (case side1 => exact xq23); (case side2 => exact (Kd.Q_reads' HO_438002.out).2.1); rintro e w47 ⟨v461, rfl, ho0, hb⟩; refine ⟨_, rfl, ?_⟩; have HO462 := rL (Kd.R_new' ho0 (qT HO_438002)); replace HO_4 := rB HO_4 hb; replace HO_7 := rB HO_7 hb; replace HO_8 := rB HO_8 hb; replace HO_438002 := qD HO_438002 (Kd.R_base ho0) hb; replace BK437 := bB BK437 hb; replace HB := bS hb; (try clear hb); (try clear hb2); (try clear hk); (try clear hi); (try clear ho0)) | ((with_reducible refine gate_callee (f := 14) rfl ?_); refine goesL_ (some 71) rfl rfl Try.func14 (by kernel_rfl) rfl #[.slice Ao14 t434.length co14] rfl xq1 ?_; (with_reducible refine (laws_cp.calls k1 _ _ t434 t463 _ ?side1 ?side2 A37.out).mono ?_); (case side1 => exact cA ((Kd.R_reads' HO_4.out).2.2)); (case side2 => exact (Kd.R_reads' HO_4.out).2.1); rintro e w48 ⟨v464, rfl, ho0, hb⟩; refine ⟨_, rfl, ?_⟩; have HO465 := rL (Kd.R_new' (Kd.R_new' (Kd.R_new' ho0 (rT HO_4)) (rT HO_7)) (rT HO_8)); replace HO_4 := rD HO_4 (Kd.R_base ho0) hb; replace HO_7 := rD HO_7 (Kd.R_base ho0) hb; replace HO_8 := rD HO_8 (Kd.R_base ho0) hb; replace HO_438002 := qB HO_438002 hb; replace HO462 := rB HO462 hb; replace BK437 := bB BK437 hb; replace HB := bS hb; (try clear hb); (try clear hb2); (try clear hk); (try clear hi); (try clear ho0); obtain ⟨Ao49, co49, eo49⟩ := Kd.R_slice HO462.out; subst eo49; obtain ⟨Ao50, co50, eo50⟩ := Kd.R_slice HO465.out; subst eo50) | ((with_reducible refine gate_callee (f := 17) rfl ?_); refine goesL_ (some 72) rfl rfl Try.func17 (by kernel_rfl) rfl #[.agg #[.int .i64 t458, .int .i64 t459, .slice Ao49 t460.length co49], .slice Ao50 t463.length co50] rfl xq1 ?_; (with_reducible refine (impl_RunPlan.calls k1 t458 t459 _ _ t460 (fun k_ => some k_ = (.slice Ao50 t463.length co50 : Value).ownBlock) _ _ t463 t466 true _ ?side1 ?side2 ?side3 A38.out).mono ?_); (case side1 => exact cA ((Kd.R_reads' HO462.out).2.2)); (case side2 => exact (Kd.R_reads' HO462.out).2.1); (case side3 => exact xq29); rintro e w51 ⟨v467, rfl, ho0, hb⟩; refine ⟨_, rfl, ?_⟩; have HO468 := rL (Kd.R_new' (Kd.R_new' (Kd.R_new' (Kd.R_new' (Kd.R_mono (ok' := fun k_ => True) ho0 (fun _ hk_ => trivial)) (rT HO_4)) (rT HO_7)) (rT HO_8)) (rT HO465)); replace HO_4 := rD HO_4 (Kd.R_base ho0) hb; replace HO_7 := rD HO_7 (Kd.R_base ho0) hb; replace HO_8 := rD HO_8 (Kd.R_base ho0) hb; replace HO_438002 := qB HO_438002 hb; replace HO462 := rB HO462 hb; replace HO465 := rD HO465 (Kd.R_base ho0) hb; replace BK437 := bB BK437 hb; replace HB := bS hb; (try clear hb); (try clear hb2); (try clear hk); (try clear hi); (try clear ho0); obtain ⟨Ao52, co52, eo52⟩ := Kd.R_slice HO_8.out; subst eo52; obtain ⟨Ao53, co53, eo53⟩ := Kd.R_slice HO_7.out; subst eo53) | (go_at_call 19; (with_reducible refine (laws_same.calls k1 _ _ x8_1 _ _ t442 true _ ?side1 ?side2 ?side3 ?side4 A40.out).mono ?_); (case side1 => exact cA ((Kd.R_reads' HO_8.out).2.2)); (case side2 => exact (Kd.R_reads' HO_8.out).2.1); (case side3 => exact cA ((Kd.R_reads' HO_7.out).2.2)); (case side4 => exact (Kd.R_reads' HO_7.out).2.1); rintro e w' ⟨rfl, ⟨nd, rfl⟩⟩; obtain ⟨Ao54, co54, eo54⟩ := Kd.R_slice HO468.out; subst eo54) | (go_at_call 19; (with_reducible refine (laws_same.calls k1 _ _ t466 _ _ t442 true _ ?side1 ?side2 ?side3 ?side4 A42.out).mono ?_); (case side1 => exact cA ((Kd.R_reads' HO468.out).2.2)); (case side2 => exact (Kd.R_reads' HO468.out).2.1); (case side3 => exact cA ((Kd.R_reads' HO_7.out).2.2)); (case side4 => exact (Kd.R_reads' HO_7.out).2.1); rintro e w' ⟨rfl, ⟨nd, rfl⟩⟩; obtain ⟨hcz55_0, hcz55_1, hcz55_2, hfz55_0, hfz55_1, hfz55_2⟩ := cel3 BK437) | (go_at_call 18; (with_reducible refine (laws_cpPlan.calls k1 t429 t430 _ _ t431 t472 t473 t474 _ ?side1 ?side2 A44.out).mono ?_); (case side1 => exact xq23); (case side2 => exact (Kd.Q_reads' HO_438002.out).2.1); rintro e w56 ⟨v475, rfl, ho0, hb⟩; have HO476 := rL (Kd.R_new' (Kd.R_new' ho0 (qT HO_438002)) (rT HO462)); replace HO_4 := rB HO_4 hb; replace HO_7 := rB HO_7 hb; replace HO_8 := rB HO_8 hb; replace HO_438002 := qD HO_438002 (Kd.R_base ho0) hb; replace HO462 := rD HO462 (Kd.R_base ho0) hb; replace HO465 := rB HO465 hb; replace HO468 := rB HO468 hb; replace BK437 := bB BK437 hb; replace HB := bS hb; (try clear hb); (try clear hb2); (try clear hk); (try clear hi); (try clear ho0); obtain ⟨Ao57, co57, eo57⟩ := Kd.R_slice HO476.out; subst eo57) | (go_at_call 20; (with_reducible refine (impl_PlanCost.calls k1 t472 t473 _ _ t474 t477 _ ?side1 ?side2 A45.out).mono ?_); (case side1 => exact cA ((Kd.R_reads' HO476.out).2.2)); (case side2 => exact (Kd.R_reads' HO476.out).2.1); rintro e w58 ⟨rfl, hb⟩; replace HO_4 := rB HO_4 hb; replace HO_7 := rB HO_7 hb; replace HO_8 := rB HO_8 hb; replace HO_438002 := qB HO_438002 hb; replace HO462 := rB HO462 hb; replace HO465 := rB HO465 hb; replace HO468 := rB HO468 hb; replace HO476 := rB HO476 hb; replace BK437 := bB BK437 hb; replace HB := bS hb; (try clear hb); (try clear hb2); (try clear hk); (try clear hi)))
               go_ret
               exact ⟨xq2, belA⟩
             · replace c43 := Bool.eq_false_iff.mpr c43; subst c43; have H1 : (some false) = some r := by rw [if_neg (show ¬ (false = true) by decide)] at H; exact H
               clear H; have H := H1; clear H1; obtain rfl := Option.some.inj H; obtain ⟨hcz59_0, hcz59_1, hcz59_2, hfz59_0, hfz59_1, hfz59_2⟩ := cel3 BK437; go_wp2_with (first | ((with_reducible refine gate_callee (f := 18) rfl ?_); refine goesL_ (some 69) rfl rfl Try.func18 (by kernel_rfl) rfl #[.agg #[.int .i64 t429, .int .i64 t430, .slice Ao13 t431.length co13]] rfl xq1 ?_; (with_reducible refine (laws_cpPlan.calls k1 t429 t430 _ _ t431 t458 t459 t460 _ ?side1 ?side2 A36.out).mono ?_); (case side1 => exact xq23); (case side2 => exact (Kd.Q_reads' HO_438002.out).2.1); rintro e w60 ⟨v461, rfl, ho0, hb⟩; refine ⟨_, rfl, ?_⟩; have HO462 := rL (Kd.R_new' ho0 (qT HO_438002)); replace HO_4 := rB HO_4 hb; replace HO_7 := rB HO_7 hb; replace HO_8 := rB HO_8 hb; replace HO_438002 := qD HO_438002 (Kd.R_base ho0) hb; replace BK437 := bB BK437 hb; replace HB := bS hb; (try clear hb); (try clear hb2); (try clear hk); (try clear hi); (try clear ho0)) | ((with_reducible refine gate_callee (f := 14) rfl ?_); refine goesL_ (some 71) rfl rfl Try.func14 (by kernel_rfl) rfl #[.slice Ao14 t434.length co14] rfl xq1 ?_; (with_reducible refine (laws_cp.calls k1 _ _ t434 t463 _ ?side1 ?side2 A37.out).mono ?_); (case side1 => exact cA ((Kd.R_reads' HO_4.out).2.2)); (case side2 => exact (Kd.R_reads' HO_4.out).2.1); rintro e w61 ⟨v464, rfl, ho0, hb⟩; refine ⟨_, rfl, ?_⟩; have HO465 := rL (Kd.R_new' (Kd.R_new' (Kd.R_new' ho0 (rT HO_4)) (rT HO_7)) (rT HO_8)); replace HO_4 := rD HO_4 (Kd.R_base ho0) hb; replace HO_7 := rD HO_7 (Kd.R_base ho0) hb; replace HO_8 := rD HO_8 (Kd.R_base ho0) hb; replace HO_438002 := qB HO_438002 hb; replace HO462 := rB HO462 hb; replace BK437 := bB BK437 hb; replace HB := bS hb; (try clear hb); (try clear hb2); (try clear hk); (try clear hi); (try clear ho0); obtain ⟨Ao62, co62, eo62⟩ := Kd.R_slice HO462.out; subst eo62; obtain ⟨Ao63, co63, eo63⟩ := Kd.R_slice HO465.out; subst eo63) | ((with_reducible refine gate_callee (f := 17) rfl ?_); refine goesL_ (some 72) rfl rfl Try.func17 (by kernel_rfl) rfl #[.agg #[.int .i64 t458, .int .i64 t459, .slice Ao62 t460.length co62], .slice Ao63 t463.length co63] rfl xq1 ?_; (with_reducible refine (impl_RunPlan.calls k1 t458 t459 _ _ t460 (fun k_ => some k_ = (.slice Ao63 t463.length co63 : Value).ownBlock) _ _ t463 t466 true _ ?side1 ?side2 ?side3 A38.out).mono ?_); (case side1 => exact cA ((Kd.R_reads' HO462.out).2.2)); (case side2 => exact (Kd.R_reads' HO462.out).2.1); (case side3 => exact xq29); rintro e w64 ⟨v467, rfl, ho0, hb⟩; refine ⟨_, rfl, ?_⟩; have HO468 := rL (Kd.R_new' (Kd.R_new' (Kd.R_new' (Kd.R_new' (Kd.R_mono (ok' := fun k_ => True) ho0 (fun _ hk_ => trivial)) (rT HO_4)) (rT HO_7)) (rT HO_8)) (rT HO465)); replace HO_4 := rD HO_4 (Kd.R_base ho0) hb; replace HO_7 := rD HO_7 (Kd.R_base ho0) hb; replace HO_8 := rD HO_8 (Kd.R_base ho0) hb; replace HO_438002 := qB HO_438002 hb; replace HO462 := rB HO462 hb; replace HO465 := rD HO465 (Kd.R_base ho0) hb; replace BK437 := bB BK437 hb; replace HB := bS hb; (try clear hb); (try clear hb2); (try clear hk); (try clear hi); (try clear ho0); obtain ⟨Ao65, co65, eo65⟩ := Kd.R_slice HO_8.out; subst eo65; obtain ⟨Ao66, co66, eo66⟩ := Kd.R_slice HO_7.out; subst eo66) | (go_at_call 19; (with_reducible refine (laws_same.calls k1 _ _ x8_1 _ _ t442 true _ ?side1 ?side2 ?side3 ?side4 A40.out).mono ?_); (case side1 => exact cA ((Kd.R_reads' HO_8.out).2.2)); (case side2 => exact (Kd.R_reads' HO_8.out).2.1); (case side3 => exact cA ((Kd.R_reads' HO_7.out).2.2)); (case side4 => exact (Kd.R_reads' HO_7.out).2.1); rintro e w' ⟨rfl, ⟨nd, rfl⟩⟩; obtain ⟨Ao67, co67, eo67⟩ := Kd.R_slice HO468.out; subst eo67) | (go_at_call 19; (with_reducible refine (laws_same.calls k1 _ _ t466 _ _ t442 false _ ?side1 ?side2 ?side3 ?side4 A42.out).mono ?_); (case side1 => exact cA ((Kd.R_reads' HO468.out).2.2)); (case side2 => exact (Kd.R_reads' HO468.out).2.1); (case side3 => exact cA ((Kd.R_reads' HO_7.out).2.2)); (case side4 => exact (Kd.R_reads' HO_7.out).2.1); rintro e w' ⟨rfl, ⟨nd, rfl⟩⟩))
               go_ret
               exact ⟨xq2, belA⟩
           · replace c41 := Bool.eq_false_iff.mpr c41; subst c41; have H1 : (some false) = some r := by rw [if_neg (show ¬ (false = true) by decide)] at H; exact H
             clear H; have H := H1; clear H1; obtain rfl := Option.some.inj H; obtain ⟨hcz68_0, hcz68_1, hcz68_2, hfz68_0, hfz68_1, hfz68_2⟩ := cel3 BK437; go_wp2_with (first | ((with_reducible refine gate_callee (f := 18) rfl ?_); refine goesL_ (some 69) rfl rfl Try.func18 (by kernel_rfl) rfl #[.agg #[.int .i64 t429, .int .i64 t430, .slice Ao13 t431.length co13]] rfl xq1 ?_; (with_reducible refine (laws_cpPlan.calls k1 t429 t430 _ _ t431 t458 t459 t460 _ ?side1 ?side2 A36.out).mono ?_); (case side1 => exact xq23); (case side2 => exact (Kd.Q_reads' HO_438002.out).2.1); rintro e w69 ⟨v461, rfl, ho0, hb⟩; refine ⟨_, rfl, ?_⟩; have HO462 := rL (Kd.R_new' ho0 (qT HO_438002)); replace HO_4 := rB HO_4 hb; replace HO_7 := rB HO_7 hb; replace HO_8 := rB HO_8 hb; replace HO_438002 := qD HO_438002 (Kd.R_base ho0) hb; replace BK437 := bB BK437 hb; replace HB := bS hb; (try clear hb); (try clear hb2); (try clear hk); (try clear hi); (try clear ho0)) | ((with_reducible refine gate_callee (f := 14) rfl ?_); refine goesL_ (some 71) rfl rfl Try.func14 (by kernel_rfl) rfl #[.slice Ao14 t434.length co14] rfl xq1 ?_; (with_reducible refine (laws_cp.calls k1 _ _ t434 t463 _ ?side1 ?side2 A37.out).mono ?_); (case side1 => exact cA ((Kd.R_reads' HO_4.out).2.2)); (case side2 => exact (Kd.R_reads' HO_4.out).2.1); rintro e w70 ⟨v464, rfl, ho0, hb⟩; refine ⟨_, rfl, ?_⟩; have HO465 := rL (Kd.R_new' (Kd.R_new' (Kd.R_new' ho0 (rT HO_4)) (rT HO_7)) (rT HO_8)); replace HO_4 := rD HO_4 (Kd.R_base ho0) hb; replace HO_7 := rD HO_7 (Kd.R_base ho0) hb; replace HO_8 := rD HO_8 (Kd.R_base ho0) hb; replace HO_438002 := qB HO_438002 hb; replace HO462 := rB HO462 hb; replace BK437 := bB BK437 hb; replace HB := bS hb; (try clear hb); (try clear hb2); (try clear hk); (try clear hi); (try clear ho0); obtain ⟨Ao71, co71, eo71⟩ := Kd.R_slice HO462.out; subst eo71; obtain ⟨Ao72, co72, eo72⟩ := Kd.R_slice HO465.out; subst eo72) | ((with_reducible refine gate_callee (f := 17) rfl ?_); refine goesL_ (some 72) rfl rfl Try.func17 (by kernel_rfl) rfl #[.agg #[.int .i64 t458, .int .i64 t459, .slice Ao71 t460.length co71], .slice Ao72 t463.length co72] rfl xq1 ?_; (with_reducible refine (impl_RunPlan.calls k1 t458 t459 _ _ t460 (fun k_ => some k_ = (.slice Ao72 t463.length co72 : Value).ownBlock) _ _ t463 t466 true _ ?side1 ?side2 ?side3 A38.out).mono ?_); (case side1 => exact cA ((Kd.R_reads' HO462.out).2.2)); (case side2 => exact (Kd.R_reads' HO462.out).2.1); (case side3 => exact xq29); rintro e w73 ⟨v467, rfl, ho0, hb⟩; refine ⟨_, rfl, ?_⟩; have HO468 := rL (Kd.R_new' (Kd.R_new' (Kd.R_new' (Kd.R_new' (Kd.R_mono (ok' := fun k_ => True) ho0 (fun _ hk_ => trivial)) (rT HO_4)) (rT HO_7)) (rT HO_8)) (rT HO465)); replace HO_4 := rD HO_4 (Kd.R_base ho0) hb; replace HO_7 := rD HO_7 (Kd.R_base ho0) hb; replace HO_8 := rD HO_8 (Kd.R_base ho0) hb; replace HO_438002 := qB HO_438002 hb; replace HO462 := rB HO462 hb; replace HO465 := rD HO465 (Kd.R_base ho0) hb; replace BK437 := bB BK437 hb; replace HB := bS hb; (try clear hb); (try clear hb2); (try clear hk); (try clear hi); (try clear ho0); obtain ⟨Ao74, co74, eo74⟩ := Kd.R_slice HO_8.out; subst eo74; obtain ⟨Ao75, co75, eo75⟩ := Kd.R_slice HO_7.out; subst eo75) | (go_at_call 19; (with_reducible refine (laws_same.calls k1 _ _ x8_1 _ _ t442 false _ ?side1 ?side2 ?side3 ?side4 A40.out).mono ?_); (case side1 => exact cA ((Kd.R_reads' HO_8.out).2.2)); (case side2 => exact (Kd.R_reads' HO_8.out).2.1); (case side3 => exact cA ((Kd.R_reads' HO_7.out).2.2)); (case side4 => exact (Kd.R_reads' HO_7.out).2.1); rintro e w' ⟨rfl, ⟨nd, rfl⟩⟩))
             go_ret
             exact ⟨xq2, belA⟩
         · replace c39 := Bool.eq_false_iff.mpr c39; subst c39; have H1 : (some false) = some r := by rw [if_neg (show ¬ (false = true) by decide)] at H; exact H
           clear H; have H := H1; clear H1; obtain rfl := Option.some.inj H; obtain ⟨hcz76_0, hcz76_1, hcz76_2, hfz76_0, hfz76_1, hfz76_2⟩ := cel3 BK437; go_wp2_with (first | ((with_reducible refine gate_callee (f := 18) rfl ?_); refine goesL_ (some 69) rfl rfl Try.func18 (by kernel_rfl) rfl #[.agg #[.int .i64 t429, .int .i64 t430, .slice Ao13 t431.length co13]] rfl xq1 ?_; (with_reducible refine (laws_cpPlan.calls k1 t429 t430 _ _ t431 t458 t459 t460 _ ?side1 ?side2 A36.out).mono ?_); (case side1 => exact xq23); (case side2 => exact (Kd.Q_reads' HO_438002.out).2.1); rintro e w77 ⟨v461, rfl, ho0, hb⟩; refine ⟨_, rfl, ?_⟩; have HO462 := rL (Kd.R_new' ho0 (qT HO_438002)); replace HO_4 := rB HO_4 hb; replace HO_7 := rB HO_7 hb; replace HO_8 := rB HO_8 hb; replace HO_438002 := qD HO_438002 (Kd.R_base ho0) hb; replace BK437 := bB BK437 hb; replace HB := bS hb; (try clear hb); (try clear hb2); (try clear hk); (try clear hi); (try clear ho0)) | ((with_reducible refine gate_callee (f := 14) rfl ?_); refine goesL_ (some 71) rfl rfl Try.func14 (by kernel_rfl) rfl #[.slice Ao14 t434.length co14] rfl xq1 ?_; (with_reducible refine (laws_cp.calls k1 _ _ t434 t463 _ ?side1 ?side2 A37.out).mono ?_); (case side1 => exact cA ((Kd.R_reads' HO_4.out).2.2)); (case side2 => exact (Kd.R_reads' HO_4.out).2.1); rintro e w78 ⟨v464, rfl, ho0, hb⟩; refine ⟨_, rfl, ?_⟩; have HO465 := rL (Kd.R_new' (Kd.R_new' (Kd.R_new' ho0 (rT HO_4)) (rT HO_7)) (rT HO_8)); replace HO_4 := rD HO_4 (Kd.R_base ho0) hb; replace HO_7 := rD HO_7 (Kd.R_base ho0) hb; replace HO_8 := rD HO_8 (Kd.R_base ho0) hb; replace HO_438002 := qB HO_438002 hb; replace HO462 := rB HO462 hb; replace BK437 := bB BK437 hb; replace HB := bS hb; (try clear hb); (try clear hb2); (try clear hk); (try clear hi); (try clear ho0); obtain ⟨Ao79, co79, eo79⟩ := Kd.R_slice HO462.out; subst eo79; obtain ⟨Ao80, co80, eo80⟩ := Kd.R_slice HO465.out; subst eo80) | ((with_reducible refine gate_callee (f := 17) rfl ?_); refine goesL_ (some 72) rfl rfl Try.func17 (by kernel_rfl) rfl #[.agg #[.int .i64 t458, .int .i64 t459, .slice Ao79 t460.length co79], .slice Ao80 t463.length co80] rfl xq1 ?_; (with_reducible refine (impl_RunPlan.calls k1 t458 t459 _ _ t460 (fun k_ => some k_ = (.slice Ao80 t463.length co80 : Value).ownBlock) _ _ t463 t466 false _ ?side1 ?side2 ?side3 A38.out).mono ?_); (case side1 => exact cA ((Kd.R_reads' HO462.out).2.2)); (case side2 => exact (Kd.R_reads' HO462.out).2.1); (case side3 => exact xq29); rintro e w81 ⟨v467, rfl, ho0, hb⟩; refine ⟨_, rfl, ?_⟩; have HO468 := rL (Kd.R_new' (Kd.R_new' (Kd.R_new' (Kd.R_new' (Kd.R_mono (ok' := fun k_ => True) ho0 (fun _ hk_ => trivial)) (rT HO_4)) (rT HO_7)) (rT HO_8)) (rT HO465)); replace HO_4 := rD HO_4 (Kd.R_base ho0) hb; replace HO_7 := rD HO_7 (Kd.R_base ho0) hb; replace HO_8 := rD HO_8 (Kd.R_base ho0) hb; replace HO_438002 := qB HO_438002 hb; replace HO462 := rB HO462 hb; replace HO465 := rD HO465 (Kd.R_base ho0) hb; replace BK437 := bB BK437 hb; replace HB := bS hb; (try clear hb); (try clear hb2); (try clear hk); (try clear hi); (try clear ho0)))
           go_ret
           exact ⟨xq2, belA⟩
   · replace c6 := Bool.eq_false_iff.mpr c6; subst c6; have H1 : (some true) = some r := by rw [if_neg (show ¬ (false = true) by decide)] at H; exact H
     clear H; have H := H1; clear H1; obtain rfl := Option.some.inj H; go_enter Try.func3, Try.ntmps3
     go_wp2_with (first | ((with_reducible refine gate_callee (f := 9) rfl ?_); refine goesL_ (some 16) rfl rfl Try.func9 (by kernel_rfl) rfl #[.slice A0 l0.length c0] rfl xq1 ?_; (with_reducible refine (laws_big.calls _ _ l0 false _ ?side1 ?side2 A2.out).mono ?_); (case side1 => exact cA HR0.out); (case side2 => exact HC0.out); rintro e w' ⟨rfl, ⟨nd, rfl⟩⟩; refine ⟨_, rfl, ?_⟩) | ((with_reducible refine gate_callee (f := 10) rfl ?_); refine goesL_ (some 19) rfl rfl Try.func10 (by kernel_rfl) rfl #[.slice A0 l0.length c0] rfl xq1 ?_; (with_reducible refine (spec_DrawRunPlan.calls k _ _ l0 t429 t430 t431 t434 _ ?side1 ?side2 A4.out).mono ?_); (case side1 => exact cA HR0.out); (case side2 => exact HC0.out); rintro e w82 ⟨v432, v435, rfl, ho0, ho1, hb⟩; refine ⟨_, rfl, ?_⟩; have HO433 := qL ho0; have HO436 := rL ho1; replace HB := bS hb; (try clear hb); (try clear hb2); (try clear hk); (try clear hi); (try clear ho0); (try clear ho1)) | ((with_reducible refine gate_dst (N := 3) rfl ?_); refine boxA 3 #[.int .i64 0, .int .i64 0, .slice none 0 0] 26 ?_; intro gb437 hg w83 hbox hb; have BK437 := Aside0.mk hbox; have GW437 := leA (w := w) hg; have GE437 := leA (w := w) hg; replace HO433 := qB HO433 hb; replace HO436 := rB HO436 hb; replace HB := bS hb; clear hb hbox hg; obtain ⟨hcz84_0, hcz84_1, hcz84_2, hfz84_0, hfz84_1, hfz84_2⟩ := cel3 BK437; obtain ⟨Ao85, co85, eo85, _⟩ := Kd.Q_slice HO433.out; subst eo85; obtain ⟨Ao86, co86, eo86⟩ := Kd.R_slice HO436.out; subst eo86) | ((with_reducible refine gate_callee (f := 11) rfl ?_); refine goesL_ (some 25) rfl rfl Try.func11 (by kernel_rfl) rfl #[.agg #[.int .i64 t429, .int .i64 t430, .slice Ao85 t431.length co85], .slice Ao86 t434.length co86] rfl xq1 ?_; (with_reducible refine (spec_RunPlan.calls k t429 t430 _ _ t431 _ _ t434 t438 false _ ?side1 ?side2 ?side3 ?side4 A5.out).mono ?_); (case side1 => refine (Kd.Q_reads' (e := 36) (base := w.heap.size) (ok := fun k_ => True) (n := t431.length) (c := co85) ?_).2.2; exact (qE (Kd.Q_mono (Kd.Q_far (p := ⟨gb437, 2, none⟩) (Kd.Q_far (p := ⟨gb437, 1, none⟩) (Kd.Q_far (p := ⟨gb437, 0, none⟩) (Kd.Q_types HO433.out BK437.out (by decide)) (fun _ hk => hk.2) (.int .i64 t429)) (fun _ hk => hk.2) (.int .i64 t430)) (fun _ hk => hk.2) (.slice Ao85 t431.length co85)) (fun _ h_ => h_.1)))); (case side2 => exact (Kd.Q_reads' HO433.out).2.1); (case side3 => refine (Kd.R_reads' (e := 3) (base := w.heap.size) (ok := fun k_ => True) (n := t434.length) (c := co86) ?_).2.2; exact (rE (Kd.R_mono (Kd.R_far (p := ⟨gb437, 2, none⟩) (Kd.R_far (p := ⟨gb437, 1, none⟩) (Kd.R_far (p := ⟨gb437, 0, none⟩) (Kd.R_types HO436.out BK437.out (by decide)) (fun _ hk => hk.2) (.int .i64 t429)) (fun _ hk => hk.2) (.int .i64 t430)) (fun _ hk => hk.2) (.slice Ao85 t431.length co85)) (fun _ h_ => h_.1)))); (case side4 => exact (Kd.R_reads' HO436.out).2.1); rintro e w87 ⟨v439, rfl, ho0, hb⟩; refine ⟨_, rfl, ?_⟩; have HO440 := Aside0.mk (Kd.R_lower (Kd.R_new' ho0 (Kd.R_lt (rE (Kd.R_mono (Kd.R_far (p := ⟨gb437, 2, none⟩) (Kd.R_far (p := ⟨gb437, 1, none⟩) (Kd.R_far (p := ⟨gb437, 0, none⟩) (Kd.R_types HO436.out BK437.out (by decide)) (fun _ hk => hk.2) (.int .i64 t429)) (fun _ hk => hk.2) (.int .i64 t430)) (fun _ hk => hk.2) (.slice Ao85 t431.length co85)) (fun _ h_ => h_.1))))) (below_size belA)); replace HO433 := Aside0.mk (Kd.Q_below (qE (Kd.Q_mono (Kd.Q_far (p := ⟨gb437, 2, none⟩) (Kd.Q_far (p := ⟨gb437, 1, none⟩) (Kd.Q_far (p := ⟨gb437, 0, none⟩) (Kd.Q_types HO433.out BK437.out (by decide)) (fun _ hk => hk.2) (.int .i64 t429)) (fun _ hk => hk.2) (.int .i64 t430)) (fun _ hk => hk.2) (.slice Ao85 t431.length co85)) (fun _ h_ => h_.1))) hb); replace HO436 := Aside0.mk (Kd.R_elder' (rE (Kd.R_mono (Kd.R_far (p := ⟨gb437, 2, none⟩) (Kd.R_far (p := ⟨gb437, 1, none⟩) (Kd.R_far (p := ⟨gb437, 0, none⟩) (Kd.R_types HO436.out BK437.out (by decide)) (fun _ hk => hk.2) (.int .i64 t429)) (fun _ hk => hk.2) (.int .i64 t430)) (fun _ hk => hk.2) (.slice Ao85 t431.length co85)) (fun _ h_ => h_.1))) (Kd.R_base ho0) hb); replace BK437 := Aside0.mk (blk_below (g := gb437) (o := .cells #[.int .i64 t429, .int .i64 t430, .slice Ao85 t431.length co85] 26 (0, 0)) xq54 hb); replace HB := bS hb; (try clear hb); (try clear hb2); (try clear hk); (try clear hi); (try clear ho0)))
     go_ret
     exact ⟨xq2, belA⟩

/-- THE ONE PURE STATEMENT of laws_FnPlanAny: yours. -/
def laws_FnPlanAny.Pure : Prop := ∀ (l0 : List Int), l0.length ≤ maxLen → l0.length * 1 ≤ 140737488351232 → (∀ x ∈ l0, (Lit.int .u8 x).wf = true) → ∃ k, laws_FnPlanAny.f k l0 = some true
theorem laws_FnPlanAny.walk (P : laws_FnPlanAny.Pure) (a0 : Option Addr) (len0 cap0 : Nat) (z0 : List Int) (w : World) (w0 : (a0 = none ∧ len0 = 0 ∧ cap0 = 0 ∧ z0 = []) ∨ ∃ x, a0 = some x ∧ len0 ≤ cap0 ∧ cap0 ≤ maxLen ∧ z0.length = cap0 ∧ (∀ i, i < z0.length → w.cell? (x.add i) = some (.int .u8 (z0.getD i 0))) ∧ ∀ n ∈ z0, (Lit.int .u8 n).wf = true) (y0 : len0 * 1 ≤ 140737488351232) :
 Calls Try.prog 3 #[.slice a0 len0 cap0] w fun e w' => e = .returned (.bool true) ∧ Below w.heap.size w w' := by
 obtain ⟨l0, rfl, hr0, hm0, hw0, hc0⟩ := ReadsInt.ofRowC w0; obtain ⟨k, h⟩ := P l0 hm0 y0 hw0; refine (laws_FnPlanAny.calls k _ _ l0 true w (Kd.C_of_reads (d := (0 : Int)) (h1 := fun _ => rfl) hr0) hc0 h).mono ?_
 rintro e w' ⟨rfl, hd⟩
 exact ⟨rfl, hd⟩

end Go.Proofs.Ytbojabmpcfclhaa.PFnPlanAny

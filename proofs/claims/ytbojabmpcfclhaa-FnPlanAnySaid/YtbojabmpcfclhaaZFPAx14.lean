-- Written by a program of this session (the print of the kit with contracts of this session's own added)
import Derived.Test.YtbojabmpcfclhaaZFPAx1
import Derived.Test.YtbojabmpcfclhaaZFPAx9
import Derived.Test.YtbojabmpcfclhaaZFPAx10
import Derived.Test.YtbojabmpcfclhaaZFPAx11
import Derived.Test.YtbojabmpcfclhaaZFPAx13
import Derived.Test.YtbojabmpcfclhaaZFPAV
import Derived.Test.YtbojabmpcfclhaaZFPAx2
namespace Go.Proofs.Ytbojabmpcfclhaa.PFnPlanAny
open Go.RowKit Go.Proofs.YtbojabmpcfclhaaW.PrintWords Go.Proofs.YtbojabmpcfclhaaW.PrintLast Go.Proofs.YtbojabmpcfclhaaW.PrintMore Go.Proofs.YtbojabmpcfclhaaW.PrintPack
attribute [local go_sem] max2_int min2_int max_two min_two max_three min_three max_four min_four   -- for this text's walks alone
set_option linter.unusedVariables false
set_option linter.unusedSimpArgs false

/-! ### impl_RunPlan: function 17 -/
mutual
def impl_RunPlan.j0 : Nat → List Int → Bool → Int → Int → List (S36) → Int → Int → Int → Option (List Int × Bool)
 | 0, _, _, _, _, _, _, _, _ => none
 | k + 1, x1, x33, x398000, x398001, x398002, x406000, x406001, x406002 => if x33 = true then (some (([] : List Int), false)) else ((impl_permuted.f k x1).bind fun t407 => (impl_RunPlan.l0 k t407 x398002 (x398002.length : Int) 0 x406000 x406001 x406002))
def impl_RunPlan.l0 : Nat → List Int → List (S36) → Int → Int → Int → Int → Int → Option (List Int × Bool)
 | 0, _, _, _, _, _, _, _ => none
 | k + 1, x8, x37, x38, x39, x406000, x406001, x406002 => if x39 < x38 then (if 0 ≤ x39 then (if x39 < (x37.length : Int) then ((impl_field_runStep.f k x406000 x406001 x406002 x8 ((rd_T36 x37 x39).f0) ((rd_T36 x37 x39).f1) ((rd_T36 x37 x39).f2)).bind fun t412 => (impl_RunPlan.l0 k t412 x37 x38 (wrap64 (x39 + 1)) x406000 x406001 x406002)) else (none)) else (none)) else (some (x8, true))
end
def impl_RunPlan.f (k : Nat) (a0_0 : Int) (a0_1 : Int) (l0_2 : List (S36)) (l1 : List Int) : Option (List Int × Bool) := (impl_vectorField.f k a0_0 (([l1] : List (List Int)))).bind fun bt401 => (if bt401.2.2.2 = true then ((impl_isPlan.f k a0_0 a0_1 l0_2).bind fun t406 => (if t406 = true then (if 0 ≤ a0_1 then (impl_RunPlan.j0 k l1 ((l1.length : Int) != (shl .i64 1 a0_1)) a0_0 a0_1 l0_2 bt401.1 bt401.2.1 bt401.2.2.1) else (none)) else (impl_RunPlan.j0 k l1 true a0_0 a0_1 l0_2 bt401.1 bt401.2.1 bt401.2.2.1))) else (impl_RunPlan.j0 k l1 true a0_0 a0_1 l0_2 bt401.1 bt401.2.1 bt401.2.2.1))
theorem impl_RunPlan.mono_l : ∀ k, (∀ y0 y1 y2 y3 y4 y5 y6 y7, LeO (impl_RunPlan.j0 k y0 y1 y2 y3 y4 y5 y6 y7) (impl_RunPlan.j0 (k + 1) y0 y1 y2 y3 y4 y5 y6 y7)) ∧ (∀ y0 y1 y2 y3 y4 y5 y6, LeO (impl_RunPlan.l0 k y0 y1 y2 y3 y4 y5 y6) (impl_RunPlan.l0 (k + 1) y0 y1 y2 y3 y4 y5 y6))
 | 0 => ⟨fun _ _ _ _ _ _ _ _ r h => by simp [impl_RunPlan.j0] at h, fun _ _ _ _ _ _ _ r h => by simp [impl_RunPlan.l0] at h⟩
 | k + 1 => by
  obtain ⟨ih0, ih1⟩ := impl_RunPlan.mono_l k; refine ⟨?_, ?_⟩
  · intro y0 y1 y2 y3 y4 y5 y6 y7
    unfold impl_RunPlan.j0
    repeat' first
    | (with_reducible exact ih0 _ _ _ _ _ _ _ _)
    | (with_reducible exact ih1 _ _ _ _ _ _ _)
    | (with_reducible exact impl_field_runStep.mono _ _ _ _ _ _ _ _)
    | (with_reducible exact impl_isPlan.mono _ _ _ _)
    | (with_reducible exact impl_permuted.mono _ _)
    | (with_reducible exact impl_vectorField.mono _ _ _)
    | (with_reducible exact LeO.refl _)
    | (with_reducible exact LeO.none _)
    | (with_reducible refine LeO.ite ?_ ?_)
    | (with_reducible refine LeO.bind ?_ (fun _ => ?_))
    | exact ih0 _ _ _ _ _ _ _ _
    | exact ih1 _ _ _ _ _ _ _
    | exact impl_field_runStep.mono _ _ _ _ _ _ _ _
    | exact impl_isPlan.mono _ _ _ _
    | exact impl_permuted.mono _ _
    | exact impl_vectorField.mono _ _ _
    | exact LeO.none _
    | refine LeO.ite ?_ ?_
    | refine LeO.bind ?_ (fun _ => ?_)
  · intro y0 y1 y2 y3 y4 y5 y6
    unfold impl_RunPlan.l0
    repeat' first
    | (with_reducible exact ih0 _ _ _ _ _ _ _ _)
    | (with_reducible exact ih1 _ _ _ _ _ _ _)
    | (with_reducible exact impl_field_runStep.mono _ _ _ _ _ _ _ _)
    | (with_reducible exact impl_isPlan.mono _ _ _ _)
    | (with_reducible exact impl_permuted.mono _ _)
    | (with_reducible exact impl_vectorField.mono _ _ _)
    | (with_reducible exact LeO.refl _)
    | (with_reducible exact LeO.none _)
    | (with_reducible refine LeO.ite ?_ ?_)
    | (with_reducible refine LeO.bind ?_ (fun _ => ?_))
    | exact ih0 _ _ _ _ _ _ _ _
    | exact ih1 _ _ _ _ _ _ _
    | exact impl_field_runStep.mono _ _ _ _ _ _ _ _
    | exact impl_isPlan.mono _ _ _ _
    | exact impl_permuted.mono _ _
    | exact impl_vectorField.mono _ _ _
    | exact LeO.none _
    | refine LeO.ite ?_ ?_
    | refine LeO.bind ?_ (fun _ => ?_)
theorem impl_RunPlan.mono : ∀ a0 a1 a2 a3 k, LeO (impl_RunPlan.f k a0 a1 a2 a3) (impl_RunPlan.f (k + 1) a0 a1 a2 a3) := by
 intro a0 a1 a2 a3 k; obtain ⟨ih0, ih1⟩ := impl_RunPlan.mono_l k
 unfold impl_RunPlan.f
 repeat' first
  | (with_reducible exact ih0 _ _ _ _ _ _ _ _)
  | (with_reducible exact ih1 _ _ _ _ _ _ _)
  | (with_reducible exact impl_field_runStep.mono _ _ _ _ _ _ _ _)
  | (with_reducible exact impl_isPlan.mono _ _ _ _)
  | (with_reducible exact impl_permuted.mono _ _)
  | (with_reducible exact impl_vectorField.mono _ _ _)
  | (with_reducible exact LeO.refl _)
  | (with_reducible exact LeO.none _)
  | (with_reducible refine LeO.ite ?_ ?_)
  | (with_reducible refine LeO.bind ?_ (fun _ => ?_))
  | exact ih0 _ _ _ _ _ _ _ _
  | exact ih1 _ _ _ _ _ _ _
  | exact impl_field_runStep.mono _ _ _ _ _ _ _ _
  | exact impl_isPlan.mono _ _ _ _
  | exact impl_permuted.mono _ _
  | exact impl_vectorField.mono _ _ _
  | exact LeO.none _
  | refine LeO.ite ?_ ?_
  | refine LeO.bind ?_ (fun _ => ?_)
set_option maxHeartbeats 8000000 in
set_option maxRecDepth 100000 in
theorem impl_RunPlan.calls (k : Nat) (a0_0 : Int) (a0_1 : Int) (A0_2 : Option Addr) (c0_2 : Nat) (l0_2 : List (S36)) (P1_ : Nat → Prop) (A1 : Option Addr) (c1 : Nat) (l1 : List Int) (r1 : List Int) (r2 : Bool) (w : World) (hr0_2 : Kd.C k36 w A0_2 l0_2.length l0_2) (hc0_2 : l0_2.length ≤ c0_2) (hs1 : Kd.V (Kd.int .i64) 3 w w.heap.size (fun k_ => P1_ k_) (.slice A1 l1.length c1) l1) (h : impl_RunPlan.f k a0_0 a0_1 l0_2 l1 = some (r1, r2)) :
 Calls Try.prog 17 #[.agg #[.int .i64 a0_0, .int .i64 a0_1, .slice A0_2 l0_2.length c0_2], .slice A1 l1.length c1] w fun e w' => ∃ v0_ : Value, e = .returned (.tuple #[v0_, .bool r2]) ∧ Kd.R (Kd.int .i64) 3 w' w.heap.size (fun k_ => (w.heap.size ≤ k_)) v0_ r1 ∧ Below w.heap.size w w' := by
 have hu26 := Try.underlying26; have hu95 := Try.underlying95; have hu36 := Try.underlying36; have HR0_2 := Aside0.mk hr0_2; have HC0_2 := Aside0.mk hc0_2; clear hr0_2 hc0_2; have HO1 := Aside0.mk (show Kd.V (Kd.int .i64) 3 w w.heap.size (fun k_ => (P1_ k_ ∨ w.heap.size ≤ k_)) (.slice A1 l1.length c1) l1 from Kd.V_mono hs1 (fun k_ hk => .inl hk)); have HB := Aside0.mk (Below.refl w.heap.size w); have H : ((impl_vectorField.f k a0_0 (([l1] : List (List Int)))).bind fun bt401 => (if bt401.2.2.2 = true then ((impl_isPlan.f k a0_0 a0_1 l0_2).bind fun t406 => (if t406 = true then (if 0 ≤ a0_1 then (impl_RunPlan.j0 k l1 ((l1.length : Int) != (shl .i64 1 a0_1)) a0_0 a0_1 l0_2 bt401.1 bt401.2.1 bt401.2.2.1) else (none)) else (impl_RunPlan.j0 k l1 true a0_0 a0_1 l0_2 bt401.1 bt401.2.1 bt401.2.2.1))) else (impl_RunPlan.j0 k l1 true a0_0 a0_1 l0_2 bt401.1 bt401.2.1 bt401.2.2.1))) = some (r1, r2) := h; clear h; obtain ⟨y398, hy398⟩ : ∃ y_ : List (List Int), y_ = (([l1] : List (List Int))) := ⟨_, rfl⟩; replace H : ((impl_vectorField.f k a0_0 y398).bind fun bt401 => (if bt401.2.2.2 = true then ((impl_isPlan.f k a0_0 a0_1 l0_2).bind fun t406 => (if t406 = true then (if 0 ≤ a0_1 then (impl_RunPlan.j0 k l1 ((l1.length : Int) != (shl .i64 1 a0_1)) a0_0 a0_1 l0_2 bt401.1 bt401.2.1 bt401.2.2.1) else (none)) else (impl_RunPlan.j0 k l1 true a0_0 a0_1 l0_2 bt401.1 bt401.2.1 bt401.2.2.1))) else (impl_RunPlan.j0 k l1 true a0_0 a0_1 l0_2 bt401.1 bt401.2.1 bt401.2.2.1))) = some (r1, r2) := by first | (rw [hy398]; with_reducible exact H) | (have H2_ := (Option.bind_some _ _).symm.trans H; rw [hy398]; with_reducible exact H2_) | (have H2_ := (Option.bind_some _ _).symm.trans H; with_reducible exact H2_) | with_reducible exact H | (rw [hy398]; exact H) | exact H
 have Ny398 := Aside0.mk hy398; clear hy398; replace H := Option.bind_eq_some_iff.mp H; obtain ⟨⟨t401, t402, t403, t404⟩, A30, H⟩ := H; replace H : (if t404 = true then ((impl_isPlan.f k a0_0 a0_1 l0_2).bind fun t406 => (if t406 = true then (if 0 ≤ a0_1 then (impl_RunPlan.j0 k l1 ((l1.length : Int) != (shl .i64 1 a0_1)) a0_0 a0_1 l0_2 t401 t402 t403) else (none)) else (impl_RunPlan.j0 k l1 true a0_0 a0_1 l0_2 t401 t402 t403))) else (impl_RunPlan.j0 k l1 true a0_0 a0_1 l0_2 t401 t402 t403)) = some (r1, r2) := H
 have A3 := Aside0.mk A30; clear A30; have HC4 := Aside0.mk H; clear H; go_enter Try.func17, Try.ntmps17
 go_upto_region 2 with (first | ((with_reducible refine gate_dst (N := 2) rfl ?_); (try (refine gate_guard (by rfl) ?_; dsimp only)); refine boxA 2 #[.int .i64 a0_0, .int .i64 a0_1, .slice A0_2 l0_2.length c0_2] 26 ?_; intro gb397 hg w5 hbox hb; have BK397 := Aside0.mk hbox; have GW397 := leA (w := w) hg; have GE397 := leA (w := w) hg; replace HO1 := vC HO1 hg hb; replace HB := bS hb; clear hb hbox hg; obtain ⟨hcz6_0, hcz6_1, hcz6_2, hfz6_0, hfz6_1, hfz6_2⟩ := cel3 BK397) | ((with_reducible refine gate_dst (N := 15) rfl ?_); (try (refine gate_guard (by rfl) ?_; dsimp only)); refine Kd.N_lit (Kd.slice 3 (Kd.int .i64)) _ 27 ?hg (N' := 15) ?hd (xs := ([l1] : List (List Int))) (inner := [.slice A1 l1.length c1]) (ok := (fun k_ => (P1_ k_ ∨ w.heap.size ≤ k_) ∧ k_ ≠ gb397)) (okp := (fun k_ => (P1_ k_ ∨ w.heap.size ≤ k_) ∧ k_ ≠ gb397)) ?hr ?hp (fun _ hk => hk) ((show ∀ k_, w5.heap.size ≤ k_ → (fun k_ => (P1_ k_ ∨ w.heap.size ≤ k_) ∧ k_ ≠ gb397) k_ from fun k_ hk => ⟨(.inr (Nat.le_trans (below_size belA) hk)), Kd.freshB (g := gb397) (o := .cells #[.int .i64 a0_0, .int .i64 a0_1, .slice A0_2 l0_2.length c0_2] 26 (0, 0)) blkA k_ hk⟩) _ (Nat.le_refl _)) (Below.refl _ _) (Nat.le_refl _) (by simp) ?_; (case hd => rfl); (case hg => rfl); (case hr => exact xq10); (case hp => exact (Reps.one (show Kd.FK (Kd.slice 3 (Kd.int .i64)) _ _ l1 [.slice A1 l1.length c1] from (Kd.FK_slice_mk (Kd.V_reads' (Kd.V_mono (ok' := (fun k_ => (P1_ k_ ∨ w.heap.size ≤ k_) ∧ k_ ≠ gb397)) (HO1.out) (fun k_ hk => ⟨hk.1, hk.2⟩))).2.1 (Kd.V_F (Kd.V_mono (ok' := (fun k_ => (P1_ k_ ∨ w.heap.size ≤ k_) ∧ k_ ≠ gb397)) (HO1.out) (fun k_ hk => ⟨hk.1, hk.2⟩))))) (Reps.none _ _))); intro v399 w7 ho8 hb hg_ hnew_; clear hg_ hnew_; (first | rw [← Ny398.out] at ho8 | (simp only [Int.reduceToNat] at ho8; rw [← Ny398.out] at ho8)); have HO400 := nL ho8; replace HO1 := vD HO1 (Kd.N_base ho8) hb; replace BK397 := bB BK397 hb; replace HB := bS hb; clear hb ho8; obtain ⟨Ao9, co9, eo9⟩ := Kd.N_slice HO400.out; subst eo9) | ((with_reducible refine gate_callee (f := 69) rfl ?_); refine goesL_ (some 16) rfl rfl Try.func69 (by kernel_rfl) rfl #[.int .i64 a0_0, .slice Ao9 y398.length co9] rfl xq1 ?_; (with_reducible refine (impl_vectorField.calls k a0_0 _ _ y398 t401 t402 t403 t404 _ ?side1 ?side2 A3.out).mono ?_); (case side1 => exact cA ((Kd.N_reads' HO400.out).2.2)); (case side2 => exact (Kd.N_reads' HO400.out).2.1); rintro e w10 ⟨rfl, hb⟩; refine ⟨_, rfl, ?_⟩; replace HO1 := vB HO1 hb; replace HO400 := nB HO400 hb; replace BK397 := bB BK397 hb; replace HB := bS hb; (try clear hb); (try clear hb2); (try clear hk); (try clear hi)) | ((with_reducible refine gate_dst (N := 6) rfl ?_); (try (refine gate_guard (by rfl) ?_; dsimp only)); refine boxA 6 #[.int .i64 0, .int .i64 0, .int .i64 0] 95 ?_; intro gb405 hg w11 hbox hb; have BK405 := Aside0.mk hbox; have GW405 := leA (w := w) hg; have GE405 := leA (w := w) hg; have NB397_405 := neL hg BK397; have NB405_397 := neG hg BK397; replace HO1 := vC HO1 hg hb; replace HO400 := nC HO400 hg hb; replace BK397 := bB BK397 hb; replace HB := bS hb; clear hb hbox hg; have hnb12 := NB405_397.out; have hnc12 := NB397_405.out; obtain ⟨hcz13_0, hcz13_1, hcz13_2, hfz13_0, hfz13_1, hfz13_2⟩ := cel3 BK405))
 (try simp only [Act.put, sa, sb, sc])
 go_cut [33] (fun v33 wc => ∃ (kq : Nat) (x33_3 : Bool), v33 = .bool x33_3 ∧ Aside0 (impl_RunPlan.j0 kq l1 x33_3 a0_0 a0_1 l0_2 t401 t402 t403 = some (r1, r2)) ∧ Aside0 (kq ≤ k) ∧ Aside0 (Kd.V (Kd.int .i64) 3 wc w.heap.size (fun k_ => (P1_ k_ ∨ w.heap.size ≤ k_) ∧ k_ ≠ gb397 ∧ k_ ≠ gb405) (.slice A1 l1.length c1) l1) ∧ Aside0 (wc.heap[gb397]? = some (.cells #[.int .i64 a0_0, .int .i64 a0_1, (.slice A0_2 l0_2.length c0_2)] 26 (0, 0))) ∧ Aside0 (wc.heap[gb405]? = some (.cells #[.int .i64 t401, .int .i64 t402, .int .i64 t403] 95 (0, 0))) ∧ Aside0 (Below w.heap.size w wc))
 case first =>
  have H := HC4.out; clear HC4
  by_cases c14 : t404 = true
  · subst c14; have H1 : ((impl_isPlan.f k a0_0 a0_1 l0_2).bind fun t406 => (if t406 = true then (if 0 ≤ a0_1 then (impl_RunPlan.j0 k l1 ((l1.length : Int) != (shl .i64 1 a0_1)) a0_0 a0_1 l0_2 t401 t402 t403) else (none)) else (impl_RunPlan.j0 k l1 true a0_0 a0_1 l0_2 t401 t402 t403))) = some (r1, r2) := by rw [if_pos rfl] at H; exact H
    clear H; have H := H1; clear H1; replace H := Option.bind_eq_some_iff.mp H; obtain ⟨t406, A150, H⟩ := H; replace H : (if t406 = true then (if 0 ≤ a0_1 then (impl_RunPlan.j0 k l1 ((l1.length : Int) != (shl .i64 1 a0_1)) a0_0 a0_1 l0_2 t401 t402 t403) else (none)) else (impl_RunPlan.j0 k l1 true a0_0 a0_1 l0_2 t401 t402 t403)) = some (r1, r2) := H
    have A15 := Aside0.mk A150; clear A150
    by_cases c16 : t406 = true
    · subst c16; have H1 : (if 0 ≤ a0_1 then (impl_RunPlan.j0 k l1 ((l1.length : Int) != (shl .i64 1 a0_1)) a0_0 a0_1 l0_2 t401 t402 t403) else (none)) = some (r1, r2) := by rw [if_pos rfl] at H; exact H
      clear H; have H := H1; clear H1
      by_cases c17 : 0 ≤ a0_1
      · rw [if_pos c17] at H; have c17b0 := eq_true c17; have c17b1 : decide (0 ≤ a0_1) = true := decide_eq_true c17; clear c17; obtain ⟨ji18, hji18⟩ : ∃ j_ : Int, (shl .i64 1 a0_1) = j_ := ⟨_, rfl⟩; replace H : (impl_RunPlan.j0 k l1 ((l1.length : Int) != (ji18)) a0_0 a0_1 l0_2 t401 t402 t403) = some (r1, r2) := by first | (rw [hji18] at H; exact H) | (simp only [hji18] at H ⊢; exact H)
        (try rw [hji18] at A15)
        have hji18_ : (IntKind.i64.wrap (1 * 2 ^ min a0_1.toNat 64)) = ji18 := hji18; have hji18z : a0_1 ≤ 64 → (IntKind.i64.wrap (1 * 2 ^ a0_1.toNat)) = ji18 := shl_small hji18; have hji18u : (IntKind.i64.wrap (2 ^ min a0_1.toNat 64)) = ji18 := by have h_ := hji18_; rw [Int.one_mul] at h_; exact h_
        have hji18v : a0_1 ≤ 64 → (IntKind.i64.wrap (2 ^ a0_1.toNat)) = ji18 := fun hle_ => by have h_ := hji18z hle_; rw [Int.one_mul] at h_; exact h_
        have hji18y : (wrap64 (1 * 2 ^ min a0_1.toNat 64)) = ji18 := (i64_w _).symm.trans hji18_; have hji18x : a0_1 ≤ 64 → (wrap64 (1 * 2 ^ a0_1.toNat)) = ji18 := fun h_ => (i64_w _).symm.trans (hji18z h_)
        have H' := Aside0.mk H; clear H; have hnb19 := NB397_405.out; have hnc19 := NB405_397.out; obtain ⟨hcz20_0, hcz20_1, hcz20_2, hfz20_0, hfz20_1, hfz20_2⟩ := cel3 BK397; go_wp2_with (first | (go_at_call 72; (with_reducible refine (impl_isPlan.calls k a0_0 a0_1 _ _ l0_2 true _ ?side1 ?side2 A15.out).mono ?_); (case side1 => exact Kd.C_below HR0_2.out belA); (case side2 => exact HC0_2.out); rintro e w21 ⟨rfl, hb⟩; replace HO1 := Aside0.mk (Kd.V_below (vE (Kd.V_mono (Kd.V_far (p := ⟨gb405, 2, none⟩) (Kd.V_far (p := ⟨gb405, 1, none⟩) (Kd.V_far (p := ⟨gb405, 0, none⟩) (Kd.V_mono HO1.out (fun k_ hk => (⟨hk, hk.2⟩ : _ ∧ k_ ≠ gb405))) (fun _ hk => hk.2) (.int .i64 t401)) (fun _ hk => hk.2) (.int .i64 t402)) (fun _ hk => hk.2) (.int .i64 t403)) (fun _ h_ => h_.1))) hb); replace HO400 := Aside0.mk (Kd.N_below (nE (Kd.N_mono (Kd.N_far (p := ⟨gb405, 2, none⟩) (Kd.N_far (p := ⟨gb405, 1, none⟩) (Kd.N_far (p := ⟨gb405, 0, none⟩) (Kd.N_mono HO400.out (fun k_ hk => (⟨hk, hk.2⟩ : _ ∧ k_ ≠ gb405))) (fun _ hk => hk.2) (.int .i64 t401)) (fun _ hk => hk.2) (.int .i64 t402)) (fun _ hk => hk.2) (.int .i64 t403)) (fun _ h_ => h_.1))) hb); replace BK397 := Aside0.mk (blk_below (g := gb397) (o := .cells #[.int .i64 a0_0, .int .i64 a0_1, .slice A0_2 l0_2.length c0_2] 26 (0, 0)) xq48 hb); replace BK405 := Aside0.mk (blk_below (g := gb405) (o := .cells #[.int .i64 t401, .int .i64 t402, .int .i64 t403] 95 (0, 0)) xq49 hb); replace HB := bS hb; (try clear hb); (try clear hb2); (try clear hk); (try clear hi); obtain ⟨hcz22_0, hcz22_1, hcz22_2, hfz22_0, hfz22_1, hfz22_2⟩ := cel3 BK397))
        go_meet
        case rel => exact ⟨_, (((l1.length : Int) != (ji18))), xq53, H', ⟨xq11⟩, ⟨vE (Kd.V_mono HO1.out (fun _ hk => ⟨hk.1.1.1, ⟨hk.1.1.2, hk.2⟩⟩))⟩, ⟨blkA⟩, ⟨blkA⟩, ⟨belA⟩⟩
      · rw [if_neg c17] at H; exact absurd H (by simp)
    · replace c16 := Bool.eq_false_iff.mpr c16; subst c16; have H1 : (impl_RunPlan.j0 k l1 true a0_0 a0_1 l0_2 t401 t402 t403) = some (r1, r2) := by rw [if_neg (show ¬ (false = true) by decide)] at H; exact H
      clear H; have H := H1; clear H1; have H' := Aside0.mk H; clear H; have hnb23 := NB397_405.out; have hnc23 := NB405_397.out; obtain ⟨hcz24_0, hcz24_1, hcz24_2, hfz24_0, hfz24_1, hfz24_2⟩ := cel3 BK397; go_wp2_with (first | (go_at_call 72; (with_reducible refine (impl_isPlan.calls k a0_0 a0_1 _ _ l0_2 false _ ?side1 ?side2 A15.out).mono ?_); (case side1 => exact Kd.C_below HR0_2.out belA); (case side2 => exact HC0_2.out); rintro e w25 ⟨rfl, hb⟩; replace HO1 := Aside0.mk (Kd.V_below (vE (Kd.V_mono (Kd.V_far (p := ⟨gb405, 2, none⟩) (Kd.V_far (p := ⟨gb405, 1, none⟩) (Kd.V_far (p := ⟨gb405, 0, none⟩) (Kd.V_mono HO1.out (fun k_ hk => (⟨hk, hk.2⟩ : _ ∧ k_ ≠ gb405))) (fun _ hk => hk.2) (.int .i64 t401)) (fun _ hk => hk.2) (.int .i64 t402)) (fun _ hk => hk.2) (.int .i64 t403)) (fun _ h_ => h_.1))) hb); replace HO400 := Aside0.mk (Kd.N_below (nE (Kd.N_mono (Kd.N_far (p := ⟨gb405, 2, none⟩) (Kd.N_far (p := ⟨gb405, 1, none⟩) (Kd.N_far (p := ⟨gb405, 0, none⟩) (Kd.N_mono HO400.out (fun k_ hk => (⟨hk, hk.2⟩ : _ ∧ k_ ≠ gb405))) (fun _ hk => hk.2) (.int .i64 t401)) (fun _ hk => hk.2) (.int .i64 t402)) (fun _ hk => hk.2) (.int .i64 t403)) (fun _ h_ => h_.1))) hb); replace BK397 := Aside0.mk (blk_below (g := gb397) (o := .cells #[.int .i64 a0_0, .int .i64 a0_1, .slice A0_2 l0_2.length c0_2] 26 (0, 0)) xq48 hb); replace BK405 := Aside0.mk (blk_below (g := gb405) (o := .cells #[.int .i64 t401, .int .i64 t402, .int .i64 t403] 95 (0, 0)) xq49 hb); replace HB := bS hb; (try clear hb); (try clear hb2); (try clear hk); (try clear hi)))
      go_meet
      case rel => exact ⟨_, (true), eqA, H', ⟨xq11⟩, ⟨vE (Kd.V_mono HO1.out (fun _ hk => ⟨hk.1.1.1, ⟨hk.1.1.2, hk.2⟩⟩))⟩, ⟨blkA⟩, ⟨blkA⟩, ⟨belA⟩⟩
  · replace c14 := Bool.eq_false_iff.mpr c14; subst c14; have H1 : (impl_RunPlan.j0 k l1 true a0_0 a0_1 l0_2 t401 t402 t403) = some (r1, r2) := by rw [if_neg (show ¬ (false = true) by decide)] at H; exact H
    clear H; have H := H1; clear H1; have H' := Aside0.mk H; clear H; go_wp2
    go_meet
    case rel => exact ⟨_, (true), eqA, H', ⟨xq11⟩, ⟨vE (Kd.V_mono (Kd.V_far (p := ⟨gb405, 2, none⟩) (Kd.V_far (p := ⟨gb405, 1, none⟩) (Kd.V_far (p := ⟨gb405, 0, none⟩) (Kd.V_mono HO1.out (fun k_ hk => (⟨hk, hk.2⟩ : _ ∧ k_ ≠ gb405))) (fun _ hk => hk.2) (.int .i64 t401)) (fun _ hk => hk.2) (.int .i64 t402)) (fun _ hk => hk.2) (.int .i64 t403)) (fun _ hk => ⟨hk.1.1.1.1, ⟨hk.1.1.1.2, hk.1.2⟩⟩))⟩, ⟨xq48⟩, ⟨xq49⟩, ⟨belA⟩⟩
 case rest =>
  clear HC4; obtain ⟨kq, x33_3, rfl, HA, HJ3, HO_1, BK397, BK405, HB⟩ := hcut
  cases kq with
  | zero => exact absurd HA.out (by simp [impl_RunPlan.j0])
  | succ kj3 =>
   have H := HA.out; clear HA; simp only [impl_RunPlan.j0] at H
   by_cases c26 : x33_3 = true
   · subst c26; have H1 : (some (([] : List Int), false)) = some (r1, r2) := by rw [if_pos rfl] at H; exact H
     clear H; have H := H1; clear H1; simp only [Option.some.injEq, Prod.mk.injEq] at H; obtain ⟨rfl, rfl⟩ := H; go_wp2
     go_ret2
     exact ⟨_, xq2, xq14, belA⟩
   · replace c26 := Bool.eq_false_iff.mpr c26; subst c26; have H1 : ((impl_permuted.f kj3 l1).bind fun t407 => (impl_RunPlan.l0 kj3 t407 l0_2 (l0_2.length : Int) 0 t401 t402 t403)) = some (r1, r2) := by rw [if_neg (show ¬ (false = true) by decide)] at H; exact H
     clear H; have H := H1; clear H1; replace H := Option.bind_eq_some_iff.mp H; obtain ⟨t407, A270, H⟩ := H; replace H : (impl_RunPlan.l0 kj3 t407 l0_2 (l0_2.length : Int) 0 t401 t402 t403) = some (r1, r2) := H
     have A27 := Aside0.mk A270; clear A270; have H' := Aside0.mk H; clear H; go_wp2_with (first | ((with_reducible refine gate_callee (f := 68) rfl ?_); refine goesL_ (some 35) rfl rfl Try.func68 (by kernel_rfl) rfl #[.slice A1 l1.length c1] rfl xq1 ?_; (with_reducible refine (impl_permuted.calls kj3 _ _ l1 t407 _ ?side1 ?side2 A27.out).mono ?_); (case side1 => exact cA ((Kd.V_reads' HO_1.out).2.2)); (case side2 => exact (Kd.V_reads' HO_1.out).2.1); rintro e w28 ⟨v408, rfl, ho0, hb⟩; refine ⟨_, rfl, ?_⟩; have HO409 := rL (Kd.R_newM (M := fun k_ => (w.heap.size ≤ k_)) ho0 (below_size belA) (fun k_ h_ => h_)); replace HO_1 := vD HO_1 (Kd.R_base ho0) hb; replace BK397 := bB BK397 hb; replace BK405 := bB BK405 hb; replace HB := bS hb; (try clear hb); (try clear hb2); (try clear hk); (try clear hi); (try clear ho0); have hnb29 := NB397_405.out; have hnc29 := NB405_397.out; obtain ⟨hcz30_0, hcz30_1, hcz30_2, hfz30_0, hfz30_1, hfz30_2⟩ := cel3 BK397))
     go_loopg [8, 39] kj3 (fun kq v8 v39 w' => ∃ (x8_2 : List Int) (x39_2 : Int), v39 = .int .i64 x39_2 ∧ Aside0 (impl_RunPlan.l0 kq x8_2 l0_2 (l0_2.length : Int) x39_2 t401 t402 t403 = some (r1, r2)) ∧ Aside0 (kq ≤ kj3) ∧ Aside0 (Kd.R (Kd.int .i64) 3 w' w.heap.size (fun k_ => (w.heap.size ≤ k_)) v8 x8_2) ∧ Aside0 (w'.heap[gb397]? = some (.cells #[.int .i64 a0_0, .int .i64 a0_1, (.slice A0_2 l0_2.length c0_2)] 26 (0, 0))) ∧ Aside0 (w'.heap[gb405]? = some (.cells #[.int .i64 t401, .int .i64 t402, .int .i64 t403] 95 (0, 0))) ∧ Aside0 (Below w.heap.size w w'))
     case atStart => exact ⟨(t407), (0), eqA, H', ⟨Nat.le_refl _⟩, ⟨rE (Kd.R_mono HO409.out (fun _ hk => hk.1))⟩, ⟨blkA⟩, ⟨blkA⟩, ⟨belA⟩⟩
     case round =>
      clear H'; obtain ⟨x8_2, x39_2, rfl, HA, HK2, HO_8, BK397, BK405, HB⟩ := hrel
      cases gk with
      | zero => exact absurd HA.out (by simp [impl_RunPlan.l0])
      | succ k2 =>
       have H := HA.out; clear HA; simp only [impl_RunPlan.l0] at H
       by_cases c31 : x39_2 < (l0_2.length : Int)
       · rw [if_pos c31] at H; have c31b0 := decide_eq_true c31; clear c31
         by_cases c32 : 0 ≤ x39_2
         · rw [if_pos c32] at H; have c32b0 := decide_eq_true c32; clear c32
           by_cases c33 : x39_2 < (l0_2.length : Int)
           · rw [if_pos c33] at H; have c33b0 := decide_eq_true c33; clear c33; replace H := Option.bind_eq_some_iff.mp H; obtain ⟨t412, A340, H⟩ := H; replace H : (impl_RunPlan.l0 k2 t412 l0_2 (l0_2.length : Int) (wrap64 (x39_2 + 1)) t401 t402 t403) = some (r1, r2) := H
             have A34 := Aside0.mk A340; clear A340; have H' := Aside0.mk H; clear H; have p410 : 0 ≤ (x39_2 : Int) := odA; have q410 : x39_2 < (l0_2.length : Int) := odA; obtain ⟨ad410, e410, hx410_0, hx410_1, hx410_2⟩ := at_T36 HR0_2.out x39_2 p410 q410
             cases e410
             try replace hx410_0 := cB HB hx410_0
             try replace hx410_1 := cB HB hx410_1
             try replace hx410_2 := cB HB hx410_2
             replace p410 := eq_true p410; replace q410 := eq_true q410; go_wp2_with (first | ((with_reducible refine gate_dst (N := 10) rfl ?_); (try (refine gate_guard (by rfl) ?_; dsimp only)); refine boxA 10 #[.int .i64 0, .int .i64 0, .int .i64 0] 36 ?_; intro gb411 hg w35 hbox hb; have BK411 := Aside0.mk hbox; have GW411 := leA (w := w) hg; have GE411 := leA (w := w) hg; have NB397_411 := neL hg BK397; have NB411_397 := neG hg BK397; have NB405_411 := neL hg BK405; have NB411_405 := neG hg BK405; replace HO_8 := rB HO_8 hb; replace BK397 := bB BK397 hb; replace BK405 := bB BK405 hb; replace HB := bS hb; clear hb hbox hg; have hnb36 := NB411_397.out; have hnc36 := NB397_411.out; have hnb37 := NB411_405.out; have hnc37 := NB405_411.out; obtain ⟨hcz38_0, hcz38_1, hcz38_2, hfz38_0, hfz38_1, hfz38_2⟩ := cel3 BK411; have hnb39 := NB405_397.out; have hnc39 := NB397_405.out; obtain ⟨hcz40_0, hcz40_1, hcz40_2, hfz40_0, hfz40_1, hfz40_2⟩ := cel3 BK405; obtain ⟨Ao41, co41, eo41⟩ := Kd.R_slice HO_8.out; subst eo41) | ((with_reducible refine gate_callee (f := 71) rfl ?_); refine goesL_ (some 46) rfl rfl Try.func71 (by kernel_rfl) rfl #[.agg #[.int .i64 t401, .int .i64 t402, .int .i64 t403], .slice Ao41 x8_2.length co41, .agg #[.int .i64 ((rd_T36 l0_2 x39_2).f0), .int .i64 ((rd_T36 l0_2 x39_2).f1), .int .i64 ((rd_T36 l0_2 x39_2).f2)]] rfl xq1 ?_; (with_reducible refine (impl_field_runStep.calls k2 t401 t402 t403 _ _ x8_2 ((rd_T36 l0_2 x39_2).f0) ((rd_T36 l0_2 x39_2).f1) ((rd_T36 l0_2 x39_2).f2) t412 _ ?side1 ?side2 A34.out).mono ?_); (case side1 => refine (Kd.R_reads' (e := 3) (base := w.heap.size) (ok := fun k_ => (w.heap.size ≤ k_)) (n := x8_2.length) (c := co41) ?_).2.2; exact (rE (Kd.R_mono (Kd.R_far (p := ⟨gb411, 2, none⟩) (Kd.R_far (p := ⟨gb411, 1, none⟩) (Kd.R_far (p := ⟨gb411, 0, none⟩) (Kd.R_types HO_8.out BK411.out (by decide)) (fun _ hk => hk.2) (.int .i64 ((rd_T36 l0_2 x39_2).f0))) (fun _ hk => hk.2) (.int .i64 ((rd_T36 l0_2 x39_2).f1))) (fun _ hk => hk.2) (.int .i64 ((rd_T36 l0_2 x39_2).f2))) (fun _ h_ => h_.1)))); (case side2 => exact (Kd.R_reads' HO_8.out).2.1); rintro e w42 ⟨v413, rfl, ho0, hb⟩; refine ⟨_, rfl, ?_⟩; have HO414 := Aside0.mk (Kd.R_lower (Kd.R_new' (Kd.R_newM (M := fun k_ => (w.heap.size ≤ k_)) ho0 (below_size belA) (fun k_ h_ => h_)) (Kd.R_lt (rE (Kd.R_mono (Kd.R_far (p := ⟨gb411, 2, none⟩) (Kd.R_far (p := ⟨gb411, 1, none⟩) (Kd.R_far (p := ⟨gb411, 0, none⟩) (Kd.R_types HO_8.out BK411.out (by decide)) (fun _ hk => hk.2) (.int .i64 ((rd_T36 l0_2 x39_2).f0))) (fun _ hk => hk.2) (.int .i64 ((rd_T36 l0_2 x39_2).f1))) (fun _ hk => hk.2) (.int .i64 ((rd_T36 l0_2 x39_2).f2))) (fun _ h_ => h_.1))))) (below_size belA)); replace HO_8 := Aside0.mk (Kd.R_elder' (rE (Kd.R_mono (Kd.R_far (p := ⟨gb411, 2, none⟩) (Kd.R_far (p := ⟨gb411, 1, none⟩) (Kd.R_far (p := ⟨gb411, 0, none⟩) (Kd.R_types HO_8.out BK411.out (by decide)) (fun _ hk => hk.2) (.int .i64 ((rd_T36 l0_2 x39_2).f0))) (fun _ hk => hk.2) (.int .i64 ((rd_T36 l0_2 x39_2).f1))) (fun _ hk => hk.2) (.int .i64 ((rd_T36 l0_2 x39_2).f2))) (fun _ h_ => h_.1))) (Kd.R_base ho0) hb); replace BK397 := Aside0.mk (blk_below (g := gb397) (o := .cells #[.int .i64 a0_0, .int .i64 a0_1, .slice (some ad410) l0_2.length c0_2] 26 (0, 0)) (by (with_reducible repeat (first | refine blk_drewN ?_ _ | refine blk_drew ?_ | refine blk_alloc ?_ _)); refine blk_far ?_ NB397_411.out _; (with_reducible repeat (first | refine blk_drewN ?_ _ | refine blk_drew ?_ | refine blk_alloc ?_ _)); refine blk_far ?_ NB397_411.out _; (with_reducible repeat (first | refine blk_drewN ?_ _ | refine blk_drew ?_ | refine blk_alloc ?_ _)); refine blk_far ?_ NB397_411.out _; (with_reducible repeat (first | refine blk_drewN ?_ _ | refine blk_drew ?_ | refine blk_alloc ?_ _)); exact BK397.out) hb); replace BK405 := Aside0.mk (blk_below (g := gb405) (o := .cells #[.int .i64 t401, .int .i64 t402, .int .i64 t403] 95 (0, 0)) (by (with_reducible repeat (first | refine blk_drewN ?_ _ | refine blk_drew ?_ | refine blk_alloc ?_ _)); refine blk_far ?_ NB405_411.out _; (with_reducible repeat (first | refine blk_drewN ?_ _ | refine blk_drew ?_ | refine blk_alloc ?_ _)); refine blk_far ?_ NB405_411.out _; (with_reducible repeat (first | refine blk_drewN ?_ _ | refine blk_drew ?_ | refine blk_alloc ?_ _)); refine blk_far ?_ NB405_411.out _; (with_reducible repeat (first | refine blk_drewN ?_ _ | refine blk_drew ?_ | refine blk_alloc ?_ _)); exact BK405.out) hb); replace BK411 := Aside0.mk (blk_below (g := gb411) (o := .cells #[.int .i64 ((rd_T36 l0_2 x39_2).f0), .int .i64 ((rd_T36 l0_2 x39_2).f1), .int .i64 ((rd_T36 l0_2 x39_2).f2)] 36 (0, 0)) (by (with_reducible repeat (first | refine blk_drewN ?_ _ | refine blk_drew ?_ | refine blk_alloc ?_ _)); refine blk_put (cs := #[.int .i64 ((rd_T36 l0_2 x39_2).f0), .int .i64 ((rd_T36 l0_2 x39_2).f1), .int .i64 0]) ?_ 2 _ rfl; (with_reducible repeat (first | refine blk_drewN ?_ _ | refine blk_drew ?_ | refine blk_alloc ?_ _)); refine blk_put (cs := #[.int .i64 ((rd_T36 l0_2 x39_2).f0), .int .i64 0, .int .i64 0]) ?_ 1 _ rfl; (with_reducible repeat (first | refine blk_drewN ?_ _ | refine blk_drew ?_ | refine blk_alloc ?_ _)); refine blk_put (cs := #[.int .i64 0, .int .i64 0, .int .i64 0]) ?_ 0 _ rfl; (with_reducible repeat (first | refine blk_drewN ?_ _ | refine blk_drew ?_ | refine blk_alloc ?_ _)); exact BK411.out) hb); replace HB := bS hb; (try clear hb); (try clear hb2); (try clear hk); (try clear hi); (try clear ho0)))
             go_roundg k2
             case measure => have := HJ3.out; have := HK2.out; omega
             case rel => exact ⟨(t412), (wrap64 (x39_2 + 1)), eqA, H', ⟨by have := HJ3.out; have := HK2.out; omega⟩, ⟨rE (Kd.R_mono HO414.out (fun _ hk => hk.1.1))⟩, ⟨blkA⟩, ⟨blkA⟩, ⟨belA⟩⟩
           · rw [if_neg c33] at H; exact absurd H (by simp)
         · rw [if_neg c32] at H; exact absurd H (by simp)
       · rw [if_neg c31] at H; have c31b0 := decide_eq_false c31; clear c31; simp only [Option.some.injEq, Prod.mk.injEq] at H; obtain ⟨rfl, rfl⟩ := H; go_wp2
         go_ret2
         exact ⟨_, xq2, by (with_reducible repeat (first | apply Kd.R_alloc | apply Kd.R_drewN | apply Kd.R_drew)); exact HO_8.out, belA⟩

/-! ### laws_cpPlan: function 18 -/
def laws_cpPlan.l0 : Nat → Int → Int → Int → List (S36) → Int → Int → List (S36) → Option (Int × Int × (List (S36)))
 | 0, _, _, _, _, _, _, _ => none
 | k + 1, x4, x416000, x416001, x416002, x418000, x418001, x418002 => if x4 < (x416002.length : Int) then (if 0 ≤ x4 then (if x418002.length < 5864062014805 then (laws_cpPlan.l0 k (wrap64 (x4 + 1)) x416000 x416001 x416002 x418000 x418001 (x418002 ++ [(⟨(rd_T36 x416002 x4).f0, (rd_T36 x416002 x4).f1, (rd_T36 x416002 x4).f2⟩ : S36)])) else (none)) else (none)) else (some (x418000, x418001, x418002))
def laws_cpPlan.f (k : Nat) (a0_0 : Int) (a0_1 : Int) (l0_2 : List (S36)) : Option (Int × Int × (List (S36))) := laws_cpPlan.l0 k 0 a0_0 a0_1 l0_2 a0_0 a0_1 ([] : List (S36))
theorem laws_cpPlan.mono_l : ∀ k, (∀ y0 y1 y2 y3 y4 y5 y6, LeO (laws_cpPlan.l0 k y0 y1 y2 y3 y4 y5 y6) (laws_cpPlan.l0 (k + 1) y0 y1 y2 y3 y4 y5 y6))
 | 0 => fun _ _ _ _ _ _ _ r h => by simp [laws_cpPlan.l0] at h
 | k + 1 => by
  have ih0 := laws_cpPlan.mono_l k
  · intro y0 y1 y2 y3 y4 y5 y6
    unfold laws_cpPlan.l0
    repeat' first
    | (with_reducible exact ih0 _ _ _ _ _ _ _)
    | (with_reducible exact LeO.refl _)
    | (with_reducible exact LeO.none _)
    | (with_reducible refine LeO.ite ?_ ?_)
    | (with_reducible refine LeO.bind ?_ (fun _ => ?_))
    | exact ih0 _ _ _ _ _ _ _
    | exact LeO.none _
    | refine LeO.ite ?_ ?_
    | refine LeO.bind ?_ (fun _ => ?_)
theorem laws_cpPlan.mono : ∀ a0 a1 a2 k, LeO (laws_cpPlan.f k a0 a1 a2) (laws_cpPlan.f (k + 1) a0 a1 a2) := by
 intro a0 a1 a2 k; have ih0 := laws_cpPlan.mono_l k
 unfold laws_cpPlan.f
 repeat' first
  | (with_reducible exact ih0 _ _ _ _ _ _ _)
  | (with_reducible exact LeO.refl _)
  | (with_reducible exact LeO.none _)
  | (with_reducible refine LeO.ite ?_ ?_)
  | (with_reducible refine LeO.bind ?_ (fun _ => ?_))
  | exact ih0 _ _ _ _ _ _ _
  | exact LeO.none _
  | refine LeO.ite ?_ ?_
  | refine LeO.bind ?_ (fun _ => ?_)
def laws_cpPlan.T5 : Bool × List (List Nat × List Nat) := (true, [([], []), ([0], [0]), ([], []), ([2], [2]), ([], []), ([3, 4], [3, 4]), ([5], [5]), ([6], [6]), ([1, 7], [1, 7]), ([0, 1, 2, 3, 4, 5, 6, 7, 8], []), ([9, 8, 8, 0, 1, 2, 3, 4, 5, 6, 7, 8], [8, 9])])
def laws_cpPlan.B5 : List Nat := [0, 1, 0, 4, 0, 28, 60, 124, 255, 511, 1023]
theorem laws_cpPlan.tab5 : rtab .any (opsOf Try.f18 5) = laws_cpPlan.T5 := by kernel_rfl
theorem laws_cpPlan.bits5 : waitsOk laws_cpPlan.T5.2 laws_cpPlan.B5 = true := by kernel_rfl
set_option maxHeartbeats 8000000 in
set_option maxRecDepth 100000 in
theorem laws_cpPlan.calls (k : Nat) (a0_0 : Int) (a0_1 : Int) (A0_2 : Option Addr) (c0_2 : Nat) (l0_2 : List (S36)) (r1 : Int) (r2 : Int) (r3 : List (S36)) (w : World) (hr0_2 : Kd.C k36 w A0_2 l0_2.length l0_2) (hc0_2 : l0_2.length ≤ c0_2) (h : laws_cpPlan.f k a0_0 a0_1 l0_2 = some (r1, r2, r3)) :
 Calls Try.prog 18 #[.agg #[.int .i64 a0_0, .int .i64 a0_1, .slice A0_2 l0_2.length c0_2]] w fun e w' => ∃ v2_ : Value, e = .returned (.agg #[.int .i64 r1, .int .i64 r2, v2_]) ∧ Kd.R k36 36 w' w.heap.size (fun _ => True) v2_ r3 ∧ Below w.heap.size w w' := by
 have hu26 := Try.underlying26; have hu36 := Try.underlying36; have HR0_2 := Aside0.mk hr0_2; have HC0_2 := Aside0.mk hc0_2; clear hr0_2 hc0_2; have HB := Aside0.mk (Below.refl w.heap.size w); have H : (laws_cpPlan.l0 k 0 a0_0 a0_1 l0_2 a0_0 a0_1 ([] : List (S36))) = some (r1, r2, r3) := h; clear h; have H' := Aside0.mk H; clear H; go_enter Try.func18, Try.ntmps18
 go_wp2_with (first | ((with_reducible refine gate_dst (N := 1) rfl ?_); refine boxA 1 #[.int .i64 a0_0, .int .i64 a0_1, .slice A0_2 l0_2.length c0_2] 26 ?_; intro gb415 hg w2 hbox hb; have BK415 := Aside0.mk hbox; have GW415 := leA (w := w) hg; have GE415 := leA (w := w) hg; replace HB := bS hb; clear hb hbox hg) | ((with_reducible refine gate_dst (N := 2) rfl ?_); refine boxA 2 #[.int .i64 0, .int .i64 0, .slice none 0 0] 26 ?_; intro gb416 hg w3 hbox hb; have BK416 := Aside0.mk hbox; have GW416 := leA (w := w) hg; have GE416 := leA (w := w) hg; have NB415_416 := neL hg BK415; have NB416_415 := neG hg BK415; replace BK415 := bB BK415 hb; replace HB := bS hb; clear hb hbox hg; have hnb4 := NB415_416.out; have hnc4 := NB416_415.out; obtain ⟨hcz5_0, hcz5_1, hcz5_2, hfz5_0, hfz5_1, hfz5_2⟩ := cel3 BK415) | ((with_reducible refine gate_dst (N := 3) rfl ?_); refine boxA 3 #[.int .i64 0, .int .i64 0, .slice none 0 0] 26 ?_; intro gb417 hg w6 hbox hb; have BK417 := Aside0.mk hbox; have GW417 := leA (w := w) hg; have GE417 := leA (w := w) hg; have NB415_417 := neL hg BK415; have NB417_415 := neG hg BK415; have NB416_417 := neL hg BK416; have NB417_416 := neG hg BK416; replace BK415 := bB BK415 hb; replace BK416 := bB BK416 hb; replace HB := bS hb; clear hb hbox hg; have hnb7 := NB417_415.out; have hnc7 := NB415_417.out; have hnb8 := NB417_416.out; have hnc8 := NB416_417.out; obtain ⟨hcz9_0, hcz9_1, hcz9_2, hfz9_0, hfz9_1, hfz9_2⟩ := cel3 BK417))
 go_loopg [4] k (fun kq v4 w' => ∃ (x4_1 : Int) (x418002_1 : List (S36)) (u418002 : Value), v4 = .int .i64 x4_1 ∧ Aside0 (laws_cpPlan.l0 kq x4_1 a0_0 a0_1 l0_2 a0_0 a0_1 x418002_1 = some (r1, r2, r3)) ∧ Aside0 (kq ≤ k) ∧ Aside0 (Kd.R k36 36 w' w.heap.size (fun _ => True) u418002 x418002_1) ∧ Aside0 (w'.heap[gb415]? = some (.cells #[.int .i64 a0_0, .int .i64 a0_1, (.slice A0_2 l0_2.length c0_2)] 26 (0, 0))) ∧ Aside0 (w'.heap[gb416]? = some (.cells #[.int .i64 0, .int .i64 0, (.slice none 0 0)] 26 (0, 0))) ∧ Aside0 (w'.heap[gb417]? = some (.cells #[.int .i64 a0_0, .int .i64 a0_1, u418002] 26 (0, 0))) ∧ Aside0 (Below w.heap.size w w'))
 case atStart => exact ⟨(0), (([] : List (S36))), (.slice none 0 0), eqA, H', ⟨Nat.le_refl _⟩, ⟨xq14⟩, ⟨by (with_reducible repeat (first | refine blk_drewN ?_ _ | refine blk_drew ?_ | refine blk_alloc ?_ _)); refine blk_far ?_ NB415_417.out _; (with_reducible repeat (first | refine blk_drewN ?_ _ | refine blk_drew ?_ | refine blk_alloc ?_ _)); refine blk_far ?_ NB415_417.out _; (with_reducible repeat (first | refine blk_drewN ?_ _ | refine blk_drew ?_ | refine blk_alloc ?_ _)); refine blk_far ?_ NB415_417.out _; (with_reducible repeat (first | refine blk_drewN ?_ _ | refine blk_drew ?_ | refine blk_alloc ?_ _)); exact BK415.out⟩, ⟨by (with_reducible repeat (first | refine blk_drewN ?_ _ | refine blk_drew ?_ | refine blk_alloc ?_ _)); refine blk_far ?_ NB416_417.out _; (with_reducible repeat (first | refine blk_drewN ?_ _ | refine blk_drew ?_ | refine blk_alloc ?_ _)); refine blk_far ?_ NB416_417.out _; (with_reducible repeat (first | refine blk_drewN ?_ _ | refine blk_drew ?_ | refine blk_alloc ?_ _)); refine blk_far ?_ NB416_417.out _; (with_reducible repeat (first | refine blk_drewN ?_ _ | refine blk_drew ?_ | refine blk_alloc ?_ _)); exact BK416.out⟩, ⟨by (with_reducible repeat (first | refine blk_drewN ?_ _ | refine blk_drew ?_ | refine blk_alloc ?_ _)); refine blk_put (cs := #[.int .i64 a0_0, .int .i64 a0_1, .slice none 0 0]) ?_ 2 _ rfl; (with_reducible repeat (first | refine blk_drewN ?_ _ | refine blk_drew ?_ | refine blk_alloc ?_ _)); refine blk_put (cs := #[.int .i64 a0_0, .int .i64 0, .slice none 0 0]) ?_ 1 _ rfl; (with_reducible repeat (first | refine blk_drewN ?_ _ | refine blk_drew ?_ | refine blk_alloc ?_ _)); refine blk_put (cs := #[.int .i64 0, .int .i64 0, .slice none 0 0]) ?_ 0 _ rfl; (with_reducible repeat (first | refine blk_drewN ?_ _ | refine blk_drew ?_ | refine blk_alloc ?_ _)); exact BK417.out⟩, ⟨belA⟩⟩
 case round =>
  clear H'; obtain ⟨x4_1, x418002_1, u418002, rfl, HA, HK1, HO_418002, BK415, BK416, BK417, HB⟩ := hrel
  cases gk with
  | zero => exact absurd HA.out (by simp [laws_cpPlan.l0])
  | succ k1 =>
   have H := HA.out; clear HA; simp only [laws_cpPlan.l0] at H
   by_cases c10 : x4_1 < (l0_2.length : Int)
   · rw [if_pos c10] at H; have c10b0 := decide_eq_true c10; clear c10
     by_cases c11 : 0 ≤ x4_1
     · rw [if_pos c11] at H; have c11b0 := decide_eq_true c11; clear c11
       by_cases c12 : x418002_1.length < 5864062014805
       · rw [if_pos c12] at H; have LMc12 := Aside0.mk c12; clear c12; obtain ⟨y419, hy419⟩ : ∃ y_ : List (S36), y_ = (x418002_1 ++ [(⟨(rd_T36 l0_2 x4_1).f0, (rd_T36 l0_2 x4_1).f1, (rd_T36 l0_2 x4_1).f2⟩ : S36)]) := ⟨_, rfl⟩; replace H : (laws_cpPlan.l0 k1 (wrap64 (x4_1 + 1)) a0_0 a0_1 l0_2 a0_0 a0_1 y419) = some (r1, r2, r3) := by first | (rw [hy419]; with_reducible exact H) | (have H2_ := (Option.bind_some _ _).symm.trans H; rw [hy419]; with_reducible exact H2_) | (have H2_ := (Option.bind_some _ _).symm.trans H; with_reducible exact H2_) | with_reducible exact H | (rw [hy419]; exact H) | exact H
         have Ny419 := Aside0.mk hy419; clear hy419; have H' := Aside0.mk H; clear H; have hnb13 := NB415_416.out; have hnc13 := NB416_415.out; have hnb14 := NB415_417.out; have hnc14 := NB417_415.out; obtain ⟨hcz15_0, hcz15_1, hcz15_2, hfz15_0, hfz15_1, hfz15_2⟩ := cel3 BK415; try go_wp2
         replace HO_418002 := Aside0.mk (Kd.R_drew HO_418002.out); replace BK415 := Aside0.mk (blk_drew BK415.out); replace BK416 := Aside0.mk (blk_drew BK416.out); replace BK417 := Aside0.mk (blk_drew BK417.out); replace HB := Aside0.mk (below_drew1 HB.out); have p418 : 0 ≤ (x4_1 : Int) := odA; have q418 : x4_1 < (l0_2.length : Int) := odA; obtain ⟨ad418, e418, hx418_0, hx418_1, hx418_2⟩ := at_T36 HR0_2.out x4_1 p418 q418; have hw418_2 := hx418_2; have hw418_1 := hx418_1; have hw418_0 := hx418_0
         cases e418
         try replace hx418_0 := cB HB hx418_0
         try replace hx418_1 := cB HB hx418_1
         try replace hx418_2 := cB HB hx418_2
         replace p418 := eq_true p418; replace q418 := eq_true q418; refine start_ (n := 11) (S := fun w' => w'.cell? ⟨gb417, 0, none⟩ = some (.int .i64 a0_0) ∧ w'.cell? ⟨gb417, 1, none⟩ = some (.int .i64 a0_1) ∧ w'.cell? ⟨gb417, 2, none⟩ = some (u418002) ∧ w'.cell? ⟨gb415, 0, none⟩ = some (.int .i64 a0_0) ∧ w'.cell? ⟨gb415, 1, none⟩ = some (.int .i64 a0_1) ∧ w'.cell? ⟨gb415, 2, none⟩ = some (.slice (some ad418) l0_2.length c0_2) ∧ w'.cell? (ad418.add ((x4_1).toNat * 3)) = some (.int .i64 ((rd_T36 l0_2 x4_1).f0)) ∧ w'.cell? ⟨(ad418.add ((x4_1).toNat * 3)).block, (ad418.add ((x4_1).toNat * 3)).off + 1, none⟩ = some (.int .i64 ((rd_T36 l0_2 x4_1).f1)) ∧ w'.cell? ⟨(ad418.add ((x4_1).toNat * 3)).block, (ad418.add ((x4_1).toNat * 3)).off + 2, none⟩ = some (.int .i64 ((rd_T36 l0_2 x4_1).f2))) (ds := [10]) #[false, false, false, false, false, false, false, false, false, false, false] (by kernel_rfl) rfl rfl ⟨(blk_cell BK417.out 0).trans rfl, (blk_cell BK417.out 1).trans rfl, (blk_cell BK417.out 2).trans rfl, (blk_cell BK415.out 0).trans rfl, (blk_cell BK415.out 1).trans rfl, (blk_cell BK415.out 2).trans rfl, ((HB.out.cell (World.block_lt_of_cell? w _ hw418_0)).trans hw418_0), ((HB.out.cell (World.block_lt_of_cell? w _ hw418_1)).trans hw418_1), ((HB.out.cell (World.block_lt_of_cell? w _ hw418_2)).trans hw418_2)⟩ (fun hHeld => ?_); refine with_tabW laws_cpPlan.tab5 laws_cpPlan.bits5 (fun HT_ HW_ => ?_)
         generalize wr.drew = w16 at HO_418002 BK415 BK416 BK417 HB hx418_0 hx418_1 hx418_2 hHeld ⊢
         refine pure_ (i := 0) (N := some 17) (v := ?_) (a' := ?_) #[true, false, false, false, false, false, false, false, false, false, false] rfl rfl (any_of HT_.out (by kernel_rfl)) (fun _ _ _ h => h) (Or.inl ⟨by rfl, ?_⟩) ?_ ?_
         rotate_left
         · intro w'; go_simp
           with_reducible rfl
         rotate_left
         · simp only [Act.put, sa, sb, sc, i64_w, i32_w]
           rfl
         refine pure_ (i := 2) (N := some 19) (v := ?_) (a' := ?_) #[true, false, true, false, false, false, false, false, false, false, false] rfl rfl (any_of HT_.out (by kernel_rfl)) (fun _ _ _ h => h) (Or.inl ⟨by rfl, ?_⟩) ?_ ?_
         rotate_left
         · intro w'; go_simp
           with_reducible rfl
         rotate_left
         · simp only [Act.put, sa, sb, sc, i64_w, i32_w]
           rfl
         refine pure_ (i := 4) (N := some 21) (v := ?_) (a' := ?_) #[true, false, true, false, true, false, false, false, false, false, false] rfl rfl (any_of HT_.out (by kernel_rfl)) (fun _ _ _ h => h) (Or.inl ⟨by rfl, ?_⟩) ?_ ?_
         rotate_left
         · intro w'; go_simp
           with_reducible rfl
         rotate_left
         · simp only [Act.put, sa, sb, sc, i64_w, i32_w]
           rfl
         refine take_ (i := 1) (N := some 18) (v := ?_) (a' := ?_) #[true, true, true, false, true, false, false, false, false, false, false] rfl rfl (take_ofW HT_.out HW_.out (by kernel_rfl)) (fun _ _ _ h => h) (Or.inl ⟨by rfl, ?_⟩) hHeld ?_ ?_
         rotate_left
         · rintro w' ⟨s0, s1, s2, s3, s4, s5, s6, s7, s8⟩
           go_simp
           with_reducible rfl
         rotate_left
         · simp only [Act.put, sa, sb, sc, i64_w, i32_w]
           rfl
         refine take_ (i := 3) (N := some 20) (v := ?_) (a' := ?_) #[true, true, true, true, true, false, false, false, false, false, false] rfl rfl (take_ofW HT_.out HW_.out (by kernel_rfl)) (fun _ _ _ h => h) (Or.inl ⟨by rfl, ?_⟩) hHeld ?_ ?_
         rotate_left
         · rintro w' ⟨s0, s1, s2, s3, s4, s5, s6, s7, s8⟩
           go_simp
           with_reducible rfl
         rotate_left
         · simp only [Act.put, sa, sb, sc, i64_w, i32_w]
           rfl
         refine pure_ (i := 5) (N := some 22) (v := ?_) (a' := ?_) #[true, true, true, true, true, true, false, false, false, false, false] rfl rfl (any_of HT_.out (by kernel_rfl)) (fun _ _ _ h => h) (Or.inl ⟨by rfl, ?_⟩) ?_ ?_
         rotate_left
         · intro w'; go_simp
           with_reducible rfl
         rotate_left
         · simp only [Act.put, sa, sb, sc, i64_w, i32_w]
           rfl
         refine take_ (i := 6) (N := some 23) (v := ?_) (a' := ?_) #[true, true, true, true, true, true, true, false, false, false, false] rfl rfl (take_ofW HT_.out HW_.out (by kernel_rfl)) (fun _ _ _ h => h) (Or.inl ⟨by rfl, ?_⟩) hHeld ?_ ?_
         rotate_left
         · rintro w' ⟨s0, s1, s2, s3, s4, s5, s6, s7, s8⟩
           go_simp
           with_reducible rfl
         rotate_left
         · simp only [Act.put, sa, sb, sc, i64_w, i32_w]
           rfl
         refine one_ (i := 7) (N := some 24) #[true, true, true, true, true, true, true, true, false, false, false] rfl rfl (one_of HT_.out (by kernel_rfl)) (by decide) (fun K hK => ?_)
         refine value_ (w1 := ?_) (v := ?_) (by rfl) rfl ?_ ?_
         rotate_left 2
         · go_simp
           constructor
           · rfl
           · rfl
         refine hK.out _ _ ⟨(blk_cell (blk_alloc BK417.out _) 0).trans rfl, (blk_cell (blk_alloc BK417.out _) 1).trans rfl, (blk_cell (blk_alloc BK417.out _) 2).trans rfl, (blk_cell (blk_alloc BK415.out _) 0).trans rfl, (blk_cell (blk_alloc BK415.out _) 1).trans rfl, (blk_cell (blk_alloc BK415.out _) 2).trans rfl, (World.cell?_alloc_lt _ _ _ (World.block_lt_of_cell? _ _ (((HB.out.cell (World.block_lt_of_cell? w _ hw418_0)).trans hw418_0)))).trans (((HB.out.cell (World.block_lt_of_cell? w _ hw418_0)).trans hw418_0)), (World.cell?_alloc_lt _ _ _ (World.block_lt_of_cell? _ _ (((HB.out.cell (World.block_lt_of_cell? w _ hw418_1)).trans hw418_1)))).trans (((HB.out.cell (World.block_lt_of_cell? w _ hw418_1)).trans hw418_1)), (World.cell?_alloc_lt _ _ _ (World.block_lt_of_cell? _ _ (((HB.out.cell (World.block_lt_of_cell? w _ hw418_2)).trans hw418_2)))).trans (((HB.out.cell (World.block_lt_of_cell? w _ hw418_2)).trans hw418_2))⟩ (fun hHeld => ?_)
         clear hK K; refine norm_ (a' := ?_) ?_ ?_
         rotate_left
         · show Act.put _ (some 24) _ = _
           simp only [Act.put, sa, sb, sc, i64_w, i32_w]
           rfl
         refine one_ (i := 8) (N := some 25) #[true, true, true, true, true, true, true, true, true, false, false] rfl rfl (one_of HT_.out (by kernel_rfl)) (by decide) (fun K hK => ?_)
         refine Kd.R_append_step k36 (w0 := w) w.heap.size (by rfl) (.tmp 18) (.tmp 24) 24 36 (.agg #[(.int .i64 0), (.int .i64 0), (.int .i64 0)]) 24 rfl Try.underlying24 info36 rfl (by decide) (by omega) u418002 x418002_1 (⟨(rd_T36 l0_2 x4_1).f0, (rd_T36 l0_2 x4_1).f1, (rd_T36 l0_2 x4_1).f2⟩ : S36) [.int .i64 ((rd_T36 l0_2 x4_1).f0), .int .i64 ((rd_T36 l0_2 x4_1).f1), .int .i64 ((rd_T36 l0_2 x4_1).f2)] (fun _ => True) (fun _ => False) rfl rfl ?aP (fun _ hk => hk.elim) ?aF ?aO ?aB ?aS ?aL ?_
         (case aP => exact k36_mkM _ _ _ (⟨(rd_T36 l0_2 x4_1).f0, (rd_T36 l0_2 x4_1).f1, (rd_T36 l0_2 x4_1).f2⟩ : S36))
         (case aB => exact belA)
         (case aF => exact (fun _ _ => trivial))
         (case aO => exact (rA HO_418002))
         (case aS => exact (below_size belA))
         (case aL => have := LMc12.out; omega)
         intro v420 w17 ho hb hg hat; rw [← Ny419.out] at ho; have n0_ := Aside0.mk (blk_grown (g := gb415) (o := .cells #[.int .i64 a0_0, .int .i64 a0_1, .slice (some ad418) l0_2.length c0_2] 26 (0, 0)) blkA hg (Kd.R_ne HO_418002.out BK415.out (by decide))); have n1_ := Aside0.mk (blk_grown (g := gb416) (o := .cells #[.int .i64 0, .int .i64 0, .slice none 0 0] 26 (0, 0)) blkA hg (Kd.R_ne HO_418002.out BK416.out (by decide))); have n2_ := Aside0.mk (blk_grown (g := gb417) (o := .cells #[.int .i64 a0_0, .int .i64 a0_1, u418002] 26 (0, 0)) blkA hg (Kd.R_ne HO_418002.out BK417.out (by decide))); have n3_ := Aside0.mk hb; have n4_ := Aside0.mk ho; clear BK415; clear BK416; clear BK417; clear HB; clear HO_418002; have BK415 := n0_; have BK416 := n1_; have BK417 := n2_; have HB := n3_; have HO421 := n4_; clear n0_ n1_ n2_ n3_ n4_; clear ho hb hg hat; obtain ⟨Ao18, co18, eo18⟩ := Kd.R_slice HO421.out; (first | subst eo18 | (injection eo18 with f1_ f2_ f3_; have f4_ := f1_.symm; have f5_ := f3_.symm; clear f1_ f2_ f3_; subst f4_; subst f5_))
         refine hK.out _ _ ⟨(blk_cell BK417.out 0).trans rfl, (blk_cell BK417.out 1).trans rfl, (blk_cell BK417.out 2).trans rfl, (blk_cell BK415.out 0).trans rfl, (blk_cell BK415.out 1).trans rfl, (blk_cell BK415.out 2).trans rfl, ((HB.out.cell (World.block_lt_of_cell? w _ hw418_0)).trans hw418_0), ((HB.out.cell (World.block_lt_of_cell? w _ hw418_1)).trans hw418_1), ((HB.out.cell (World.block_lt_of_cell? w _ hw418_2)).trans hw418_2)⟩ (fun hHeld => ?_)
         clear hK K; refine norm_ (a' := ?_) ?_ ?_
         rotate_left
         · show Act.put _ (some 25) _ = _
           simp only [Act.put, sa, sb, sc, i64_w, i32_w]
           rfl
         refine pure_ (i := 9) (N := some 26) (v := ?_) (a' := ?_) #[true, true, true, true, true, true, true, true, true, true, false] rfl rfl (any_of HT_.out (by kernel_rfl)) (fun _ _ _ h => h) (Or.inl ⟨by rfl, ?_⟩) ?_ ?_
         rotate_left
         · intro w'; go_simp
           with_reducible rfl
         rotate_left
         · simp only [Act.put, sa, sb, sc, i64_w, i32_w]
           rfl
         refine last_ (i := 10) (N := none) #[true, true, true, true, true, true, true, true, true, true, true] rfl rfl (one_of HT_.out (by kernel_rfl)) (by decide) (fun K hK => ?_)
         have hs19 : w17.cell? ⟨gb417, 2, none⟩ = some (u418002) := (blk_cell BK417.out 2).trans rfl; have hfs19 := blk_frozen BK417.out 2; have hns19_0 := NB415_417.out; have hns19_1 := NB416_417.out; have hms19_0 := NB417_415.out; have hms19_1 := NB417_416.out; refine skip_ (w1 := ?_) (by rfl) rfl ?_ ?_
         rotate_left
         · go_simp
           rfl
         refine hK.out _ _ ?_
         clear hK K; refine done_ (done_of HT_.out (by kernel_rfl)) ?_
         try go_wp2
         go_roundg k1
         case measure => have := HK1.out; omega
         case rel => exact ⟨(wrap64 (x4_1 + 1)), (y419), (.slice Ao18 y419.length co18), eqA, H', ⟨xq12⟩, ⟨rE (Kd.R_mono (Kd.R_far (p := ⟨gb417, 2, none⟩) (Kd.R_types HO421.out BK417.out (by decide)) (fun _ hk => hk.2) (.slice Ao18 y419.length co18)) (fun _ hk => trivial))⟩, ⟨by (with_reducible repeat (first | refine blk_drewN ?_ _ | refine blk_drew ?_ | refine blk_alloc ?_ _)); refine blk_far ?_ NB415_417.out _; (with_reducible repeat (first | refine blk_drewN ?_ _ | refine blk_drew ?_ | refine blk_alloc ?_ _)); exact BK415.out⟩, ⟨by (with_reducible repeat (first | refine blk_drewN ?_ _ | refine blk_drew ?_ | refine blk_alloc ?_ _)); refine blk_far ?_ NB416_417.out _; (with_reducible repeat (first | refine blk_drewN ?_ _ | refine blk_drew ?_ | refine blk_alloc ?_ _)); exact BK416.out⟩, ⟨by (with_reducible repeat (first | refine blk_drewN ?_ _ | refine blk_drew ?_ | refine blk_alloc ?_ _)); refine blk_put (cs := #[.int .i64 a0_0, .int .i64 a0_1, u418002]) ?_ 2 _ rfl; (with_reducible repeat (first | refine blk_drewN ?_ _ | refine blk_drew ?_ | refine blk_alloc ?_ _)); exact BK417.out⟩, ⟨belA⟩⟩
       · rw [if_neg c12] at H; exact absurd H (by simp)
     · rw [if_neg c11] at H; exact absurd H (by simp)
   · rw [if_neg c10] at H; have c10b0 := decide_eq_false c10; clear c10; simp only [Option.some.injEq, Prod.mk.injEq] at H; obtain ⟨rfl, rfl, rfl⟩ := H; have hnb20 := NB415_416.out; have hnc20 := NB416_415.out; have hnb21 := NB415_417.out; have hnc21 := NB417_415.out; obtain ⟨hcz22_0, hcz22_1, hcz22_2, hfz22_0, hfz22_1, hfz22_2⟩ := cel3 BK415; have hnb23 := NB417_416.out; have hnc23 := NB416_417.out; obtain ⟨hcz24_0, hcz24_1, hcz24_2, hfz24_0, hfz24_1, hfz24_2⟩ := cel3 BK417; obtain ⟨hcz25_0, hcz25_1, hcz25_2, hfz25_0, hfz25_1, hfz25_2⟩ := cel3 BK416; obtain ⟨Ao26, co26, eo26⟩ := Kd.R_slice HO_418002.out; subst eo26; go_wp2
     refine bodyPost_ret (results_cell_row rfl _ _ gb416 26 #[.int .i64 a0_0, .int .i64 a0_1, .slice Ao26 x418002_1.length co26] (0, 0) _ rfl (by (with_reducible repeat (first | refine blk_drewN ?_ _ | refine blk_drew ?_ | refine blk_alloc ?_ _)); refine blk_put (cs := #[.int .i64 a0_0, .int .i64 a0_1, .slice none 0 0]) ?_ 2 _ rfl; (with_reducible repeat (first | refine blk_drewN ?_ _ | refine blk_drew ?_ | refine blk_alloc ?_ _)); refine blk_put (cs := #[.int .i64 a0_0, .int .i64 0, .slice none 0 0]) ?_ 1 _ rfl; (with_reducible repeat (first | refine blk_drewN ?_ _ | refine blk_drew ?_ | refine blk_alloc ?_ _)); refine blk_put (cs := #[.int .i64 0, .int .i64 0, .slice none 0 0]) ?_ 0 _ rfl; (with_reducible repeat (first | refine blk_drewN ?_ _ | refine blk_drew ?_ | refine blk_alloc ?_ _)); exact BK416.out) Try.underlying26 rfl (by kernel_rfl)) rfl ?_
     exact ⟨_, xq2, by (with_reducible repeat (first | apply Kd.R_alloc | apply Kd.R_drewN | apply Kd.R_drew)); exact Kd.R_mono (Kd.R_far (p := ⟨gb416, 2, none⟩) (Kd.R_far (p := ⟨gb416, 1, none⟩) (Kd.R_far (p := ⟨gb416, 0, none⟩) (Kd.R_types HO_418002.out BK416.out (by decide)) (fun _ hk => hk.2) (.int .i64 a0_0)) (fun _ hk => hk.2) (.int .i64 a0_1)) (fun _ hk => hk.2) (.slice Ao26 x418002_1.length co26)) (fun _ hk => trivial), belA⟩

/-! ### laws_same: function 19 -/
def laws_same.l0 : Nat → List Int → List Int → Int → Option (Bool)
 | 0, _, _, _ => none
 | k + 1, x0, x1, x5 => if x5 < (x0.length : Int) then (if 0 ≤ x5 then (if x5 < (x1.length : Int) then (if (rd x0 x5) = (rd x1 x5) then (laws_same.l0 k x0 x1 (wrap64 (x5 + 1))) else (some false)) else (none)) else (none)) else (some true)
def laws_same.f (k : Nat) (l0 : List Int) (l1 : List Int) : Option (Bool) := if (l0.length : Int) = (l1.length : Int) then (laws_same.l0 k l0 l1 0) else (some false)
theorem laws_same.mono_l : ∀ k, (∀ y0 y1 y2, LeO (laws_same.l0 k y0 y1 y2) (laws_same.l0 (k + 1) y0 y1 y2))
 | 0 => fun _ _ _ r h => by simp [laws_same.l0] at h
 | k + 1 => by
  have ih0 := laws_same.mono_l k
  · intro y0 y1 y2
    unfold laws_same.l0
    repeat' first
    | (with_reducible exact ih0 _ _ _)
    | (with_reducible exact LeO.refl _)
    | (with_reducible exact LeO.none _)
    | (with_reducible refine LeO.ite ?_ ?_)
    | (with_reducible refine LeO.bind ?_ (fun _ => ?_))
    | exact ih0 _ _ _
    | exact LeO.none _
    | refine LeO.ite ?_ ?_
    | refine LeO.bind ?_ (fun _ => ?_)
theorem laws_same.mono : ∀ a0 a1 k, LeO (laws_same.f k a0 a1) (laws_same.f (k + 1) a0 a1) := by
 intro a0 a1 k; have ih0 := laws_same.mono_l k
 unfold laws_same.f
 repeat' first
  | (with_reducible exact ih0 _ _ _)
  | (with_reducible exact LeO.refl _)
  | (with_reducible exact LeO.none _)
  | (with_reducible refine LeO.ite ?_ ?_)
  | (with_reducible refine LeO.bind ?_ (fun _ => ?_))
  | exact ih0 _ _ _
  | exact LeO.none _
  | refine LeO.ite ?_ ?_
  | refine LeO.bind ?_ (fun _ => ?_)
set_option maxHeartbeats 8000000 in
set_option maxRecDepth 100000 in
theorem laws_same.calls (k : Nat) (A0 : Option Addr) (c0 : Nat) (l0 : List Int) (A1 : Option Addr) (c1 : Nat) (l1 : List Int) (r : Bool) (w : World) (hr0 : Kd.C (Kd.int .i64) w A0 l0.length l0) (hc0 : l0.length ≤ c0) (hr1 : Kd.C (Kd.int .i64) w A1 l1.length l1) (hc1 : l1.length ≤ c1) (h : laws_same.f k l0 l1 = some r) :
 Calls Try.prog 19 #[.slice A0 l0.length c0, .slice A1 l1.length c1] w fun e w' => e = .returned (.bool r) ∧ Drawn0 w w' := by
 have HR0 := Aside0.mk hr0; have HC0 := Aside0.mk hc0; clear hr0 hc0; have HR1 := Aside0.mk hr1; have HC1 := Aside0.mk hc1; clear hr1 hc1; have H : (if (l0.length : Int) = (l1.length : Int) then (laws_same.l0 k l0 l1 0) else (some false)) = some r := h; clear h
 by_cases c3 : (l0.length : Int) = (l1.length : Int)
 · rw [if_pos c3] at H; have c3b0 : ((l0.length : Int) == (l1.length : Int)) = true := beq_iff_eq.mpr c3; have c3b1 : ((l0.length : Int) != (l1.length : Int)) = false := bne_eq_false_iff_eq.mpr c3; have c3b2 : (l0.length == l1.length) = true := by first | simpa using c3 | (simp at c3 ⊢; omega)
   clear c3; have H' := Aside0.mk H; clear H; go_enter Try.func19, Try.ntmps19
   go_wp2
   repeat (go_quiet (fail); try go_wp2)
   go_loopg [5] k (fun kq v5 w' => ∃ (x5_1 : Int), v5 = .int .i64 x5_1 ∧ Aside0 (laws_same.l0 kq l0 l1 x5_1 = some r) ∧ Aside0 (kq ≤ k) ∧ Drawn0 w w')
   case atStart => exact ⟨(0), eqA, H', ⟨Nat.le_refl _⟩, xq3⟩
   case round =>
    clear H'; obtain ⟨x5_1, rfl, HA, HK1, ⟨m1, rfl⟩⟩ := hrel
    cases gk with
    | zero => exact absurd HA.out (by simp [laws_same.l0])
    | succ k1 =>
     have H := HA.out; clear HA; simp only [laws_same.l0] at H
     by_cases c4 : x5_1 < (l0.length : Int)
     · rw [if_pos c4] at H; have c4b0 := decide_eq_true c4; clear c4
       by_cases c5 : 0 ≤ x5_1
       · rw [if_pos c5] at H; have c5b0 := decide_eq_true c5; clear c5
         by_cases c6 : x5_1 < (l1.length : Int)
         · rw [if_pos c6] at H; have c6b0 := decide_eq_true c6; clear c6
           by_cases c7 : (rd l0 x5_1) = (rd l1 x5_1)
           · rw [if_pos c7] at H; have c7b0 : ((rd l0 x5_1) == (rd l1 x5_1)) = true := beq_iff_eq.mpr c7; have c7b1 : ((rd l0 x5_1) != (rd l1 x5_1)) = false := bne_eq_false_iff_eq.mpr c7; clear c7; have H' := Aside0.mk H; clear H; have p422 : 0 ≤ (x5_1 : Int) := odA; have q422 : x5_1 < (l0.length : Int) := odA; obtain ⟨ad422, e422, hx422_0⟩ := Kd.at_int HR0.out x5_1 p422 q422
             cases e422
             replace p422 := eq_true p422; replace q422 := eq_true q422; have p423 : 0 ≤ (x5_1 : Int) := odA; have q423 : x5_1 < (l1.length : Int) := odA; obtain ⟨ad423, e423, hx423_0⟩ := Kd.at_int HR1.out x5_1 p423 q423
             cases e423
             replace p423 := eq_true p423; replace q423 := eq_true q423; go_wp2
             repeat (go_quiet (fail); try go_wp2)
             go_roundg k1
             case measure => have := HK1.out; omega
             case rel => exact ⟨(wrap64 (x5_1 + 1)), eqA, H', ⟨xq12⟩, xq3⟩
           · rw [if_neg c7] at H; have c7b0 : ((rd l0 x5_1) == (rd l1 x5_1)) = false := beq_eq_false_iff_ne.mpr c7; have c7b1 : ((rd l0 x5_1) != (rd l1 x5_1)) = true := bne_iff_ne.mpr c7; obtain rfl := Option.some.inj H; have p422 : 0 ≤ (x5_1 : Int) := odA; have q422 : x5_1 < (l0.length : Int) := odA; obtain ⟨ad422, e422, hx422_0⟩ := Kd.at_int HR0.out x5_1 p422 q422
             cases e422
             replace p422 := eq_true p422; replace q422 := eq_true q422; have p423 : 0 ≤ (x5_1 : Int) := odA; have q423 : x5_1 < (l1.length : Int) := odA; obtain ⟨ad423, e423, hx423_0⟩ := Kd.at_int HR1.out x5_1 p423 q423
             cases e423
             replace p423 := eq_true p423; replace q423 := eq_true q423; go_wp2
             repeat (go_quiet (fail); try go_wp2)
             go_ret
             exact ⟨xq7, xq3⟩
         · rw [if_neg c6] at H; exact absurd H (by simp)
       · rw [if_neg c5] at H; exact absurd H (by simp)
     · rw [if_neg c4] at H; have c4b0 := decide_eq_false c4; clear c4; obtain rfl := Option.some.inj H; go_wp2
       repeat (go_quiet (fail); try go_wp2)
       go_ret
       exact ⟨xq7, xq3⟩
 · rw [if_neg c3] at H; have c3b0 : ((l0.length : Int) == (l1.length : Int)) = false := beq_eq_false_iff_ne.mpr c3; have c3b1 : ((l0.length : Int) != (l1.length : Int)) = true := bne_iff_ne.mpr c3; have c3b2 : (l0.length == l1.length) = false := by first | simpa using c3 | (simp at c3 ⊢; omega)
   obtain rfl := Option.some.inj H; go_enter Try.func19, Try.ntmps19
   go_wp2
   repeat (go_quiet (fail); try go_wp2)
   go_ret
   exact ⟨xq7, xq3⟩

end Go.Proofs.Ytbojabmpcfclhaa.PFnPlanAny

-- Written by a program of this session (the print of the kit with contracts of this session's own added)
import Derived.Test.YtbojabmpcfclhaaZFEPJx6
set_option maxHeartbeats 8000000
set_option maxRecDepth 100000
namespace Go.Proofs.Ytbojabmpcfclhaa.PFnExactPackJobs
open Go.RowKit Go.Proofs.YtbojabmpcfclhaaW.PrintWords Go.Proofs.YtbojabmpcfclhaaW.PrintLast Go.Proofs.YtbojabmpcfclhaaW.PrintMore Go.Proofs.YtbojabmpcfclhaaW.PrintPack Go.Proofs.YtbojabmpcfclhaaW.PrintPack
set_option linter.unusedVariables false
set_option linter.unusedSimpArgs false

mutual
def spec_PackJobs.l0 : Nat → Int → Int → List (S104) → List Int → Int → Option (List Int × Bool)
 | 0, _, _, _, _, _ => none
 | k + 1, x0, x1, x2, x8, x9 => if x9 < (x2.length : Int) then (if 0 ≤ x9 then ((spec_JobOk.f k ((rd_T104 x2 x9).f0) ((rd_T104 x2 x9).f1) ((rd_T104 x2 x9).f2) ((rd_T104 x2 x9).f3) ((rd_T104 x2 x9).f4)).bind fun t222 => (if t222 = true then ((spec_l01In.f x1 0 (wrap64 (2147483647 - x9))).bind fun t223 => (if t223 = true then ((spec_l01In.f x0 0 99).bind fun t224 => (spec_PackJobs.j1 k x0 x1 x2 x8 x9 (!t224))) else (spec_PackJobs.j1 k x0 x1 x2 x8 x9 true))) else (spec_PackJobs.j1 k x0 x1 x2 x8 x9 true))) else (none)) else (some (x8, true))
def spec_PackJobs.j1 : Nat → Int → Int → List (S104) → List Int → Int → Bool → Option (List Int × Bool)
 | 0, _, _, _, _, _, _ => none
 | k + 1, x0, x1, x2, x8, x9, x37 => if x37 = true then (some (([] : List Int), false)) else (if 0 ≤ x9 then (if x9 < (x2.length : Int) then ((spec_EncodeJob.f k ((rd_T104 x2 x9).f0) ((rd_T104 x2 x9).f1) ((rd_T104 x2 x9).f2) ((rd_T104 x2 x9).f3) ((rd_T104 x2 x9).f4)).bind fun t226 => ((spec_EncodeFrame.f k x0 (wrap64 (x1 + x9)) t226).bind fun t229 => ((spec_l01Join.f k x8 t229).bind fun t232 => (spec_PackJobs.l0 k x0 x1 x2 t232 (wrap64 (x9 + 1)))))) else (none)) else (none))
end
def spec_PackJobs.f (k : Nat) (a0 : Int) (a1 : Int) (l2 : List (S104)) : Option (List Int × Bool) := if (l2.length : Int) > 50 then (some (([] : List Int), false)) else (spec_PackJobs.l0 k a0 a1 l2 (([] : List Int)) 0)
theorem spec_PackJobs.mono_l : ∀ k, (∀ y0 y1 y2 y3 y4, LeO (spec_PackJobs.l0 k y0 y1 y2 y3 y4) (spec_PackJobs.l0 (k + 1) y0 y1 y2 y3 y4)) ∧ (∀ y0 y1 y2 y3 y4 y5, LeO (spec_PackJobs.j1 k y0 y1 y2 y3 y4 y5) (spec_PackJobs.j1 (k + 1) y0 y1 y2 y3 y4 y5))
 | 0 => ⟨fun _ _ _ _ _ r h => by simp [spec_PackJobs.l0] at h, fun _ _ _ _ _ _ r h => by simp [spec_PackJobs.j1] at h⟩
 | k + 1 => by
  obtain ⟨ih0, ih1⟩ := spec_PackJobs.mono_l k; refine ⟨?_, ?_⟩
  · intro y0 y1 y2 y3 y4; unfold spec_PackJobs.l0; exact xq27
  · intro y0 y1 y2 y3 y4 y5; unfold spec_PackJobs.j1; exact xq27
theorem spec_PackJobs.mono : ∀ a0 a1 a2 k, LeO (spec_PackJobs.f k a0 a1 a2) (spec_PackJobs.f (k + 1) a0 a1 a2) := by
 intro a0 a1 a2 k; obtain ⟨ih0, ih1⟩ := spec_PackJobs.mono_l k
 unfold spec_PackJobs.f
 exact xq27
theorem spec_PackJobs.calls (k : Nat) (a0 : Int) (a1 : Int) (A2 : Option Addr) (c2 : Nat) (l2 : List (S104)) (r1 : List Int) (r2 : Bool) (w : World) (hr2 : Kd.C k104 w A2 l2.length l2) (hc2 : l2.length ≤ c2) (h : spec_PackJobs.f k a0 a1 l2 = some (r1, r2)) :
 Calls Try.prog 22 #[.int .i64 a0, .int .i64 a1, .slice A2 l2.length c2] w fun e w' => ∃ v0_ : Value, e = .returned (.tuple #[v0_, .bool r2]) ∧ Kd.R (Kd.int .u8) 5 w' w.heap.size (fun _ => True) v0_ r1 ∧ Below w.heap.size w w' := by
 have hu104 := Try.underlying104; have hu109 := Try.underlying109; have HR2 := ak hr2; have HC2 := ak hc2; clear hr2 hc2; have HB := ak (Below.refl w.heap.size w); have H : (if (l2.length : Int) > 50 then (some (([] : List Int), false)) else (spec_PackJobs.l0 k a0 a1 l2 (([] : List Int)) 0)) = some (r1, r2) := h; clear h; obtain ⟨y218, hyq⟩ : ∃ y_ : List Int, y_ = (([] : List Int)) := ⟨_, rfl⟩; replace H : (if (l2.length : Int) > 50 then (some (([] : List Int), false)) else (spec_PackJobs.l0 k a0 a1 l2 y218 0)) = some (r1, r2) := by first | (rw [hyq]; with_reducible exact H) | (have H2_ := (Option.bind_some _ _).symm.trans H; rw [hyq]; with_reducible exact H2_) | (have H2_ := (Option.bind_some _ _).symm.trans H; with_reducible exact H2_) | with_reducible exact H | (rw [hyq]; exact H) | exact H
 have Ny218 := ak hyq; clear hyq
 by_cases c4 : (l2.length : Int) > 50
 · rw [if_pos c4] at H; have c4b0 : decide (50 < (l2.length : Int)) = true := decide_eq_true c4; have c4b1 : decide (50 < l2.length) = true := decide_eq_true (by omega); clear c4; simp only [Option.some.injEq, Prod.mk.injEq] at H; obtain ⟨rfl, rfl⟩ := H; go_enter Try.func22, Try.ntmps22
   go_wp2_with (first | ((with_reducible refine gate_dst (N := 10) rfl ?_); refine Kd.R_lit (Kd.int .u8) _ 5 ?hg (N := 10) ?hd (xs := ([] : List Int)) (inner := []) (ok := fun _ => True) (okp := fun _ => True) ?hr ?hp (fun _ hk => hk) trivial (Below.refl _ _) (Nat.le_refl _) (by simp) ?_; (case hd => rfl); (case hg => rfl); (case hr => exact xq4); (case hp => exact (Reps.none _ _)); intro v219 w5 ho6 hb hg_ hnew_; clear hg_ hnew_; (first | rw [← Ny218.out] at ho6 | (simp only [Int.reduceToNat] at ho6; rw [← Ny218.out] at ho6)); have HO220 := rL ho6; replace HB := bS hb; clear hb ho6))
   go_ret2
   exact ⟨_, xq1, xq9, belA⟩
 rw [if_neg c4] at H; have c4b0 : decide (50 < (l2.length : Int)) = false := decide_eq_false c4; have c4b1 : decide (50 < l2.length) = false := decide_eq_false (by omega); clear c4; have H' := ak H; clear H; go_enter Try.func22, Try.ntmps22
 go_wp2_with (first | ((with_reducible refine gate_dst (N := 10) rfl ?_); refine Kd.R_lit (Kd.int .u8) _ 5 ?hg (N := 10) ?hd (xs := ([] : List Int)) (inner := []) (ok := fun _ => True) (okp := fun _ => True) ?hr ?hp (fun _ hk => hk) trivial (Below.refl _ _) (Nat.le_refl _) (by simp) ?_; (case hd => rfl); (case hg => rfl); (case hr => exact xq4); (case hp => exact (Reps.none _ _)); intro v219 w7 ho8 hb hg_ hnew_; clear hg_ hnew_; (first | rw [← Ny218.out] at ho8 | (simp only [Int.reduceToNat] at ho8; rw [← Ny218.out] at ho8)); have HO220 := rL ho8; replace HB := bS hb; clear hb ho8))
 go_loopg [8, 9] k (fun kq v8 v9 w' => ∃ (x8_1 : List Int) (x9_1 : Int), v9 = .int .i64 x9_1 ∧ Aside0 (spec_PackJobs.l0 kq a0 a1 l2 x8_1 x9_1 = some (r1, r2)) ∧ Aside0 (kq ≤ k) ∧ Aside0 (Kd.R (Kd.int .u8) 5 w' w.heap.size (fun _ => True) v8 x8_1) ∧ Aside0 (Below w.heap.size w w'))
 case atStart => exact ⟨(y218), (0), eqA, H', ⟨Nat.le_refl _⟩, ⟨rA HO220⟩, ⟨belA⟩⟩
 case round =>
  clear H'; obtain ⟨x8_1, x9_1, rfl, HA, HK1, HO_8, HB⟩ := hrel
  cases gk with
  | zero => exact absurd HA.out (by simp [spec_PackJobs.l0])
  | succ k1 =>
   have H := HA.out; clear HA; simp only [spec_PackJobs.l0] at H
   by_cases c9 : x9_1 < (l2.length : Int); rotate_left
   · rw [if_neg c9] at H; have c9b0 := decide_eq_false c9; clear c9; simp only [Option.some.injEq, Prod.mk.injEq] at H; obtain ⟨rfl, rfl⟩ := H; go_wp2
     go_ret2
     exact ⟨_, xq1, xq38, belA⟩
   rw [if_pos c9] at H; have c9b0 := decide_eq_true c9; clear c9; have HC10 := ak H; clear H; go_upto_region 7 with (fail)
   go_cut [37] (fun v37 wc => ∃ (kq : Nat) (x37_9 : Bool), v37 = .bool x37_9 ∧ Aside0 (spec_PackJobs.j1 kq a0 a1 l2 x8_1 x9_1 x37_9 = some (r1, r2)) ∧ Aside0 (kq ≤ k1) ∧ Aside0 (Kd.R (Kd.int .u8) 5 wc w.heap.size (fun _ => True) u8 x8_1) ∧ Aside0 (Below w.heap.size w wc))
   case first =>
    have H := HC10.out; clear HC10
    by_cases c11 : 0 ≤ x9_1; rotate_left
    · rw [if_neg c11] at H; exact absurd H (by simp)
    rw [if_pos c11] at H; have c11b0 := decide_eq_true c11; clear c11; (first | rw [c11b0] | (simp only [i64_w, i32_w]; rw [c11b0]) | skip)
    replace H := Option.bind_eq_some_iff.mp H; obtain ⟨t222, A120, H⟩ := H; (try dsimp only at H); have A12 := ak A120; clear A120
    by_cases c13 : t222 = true; rotate_left
    · replace c13 := Bool.eq_false_iff.mpr c13; subst c13; have H1 : (spec_PackJobs.j1 k1 a0 a1 l2 x8_1 x9_1 true) = some (r1, r2) := by rw [if_neg (show ¬ (false = true) by decide)] at H; exact H
      clear H; have H := H1; clear H1; have H' := ak H; clear H; have p221 : 0 ≤ (x9_1 : Int) := odA; have q221 : x9_1 < (l2.length : Int) := odA; obtain ⟨ad221, A221_2, c221_2, A221_3, c221_3, e221, hx221_0, hx221_1, hx221_2, hx221_3, hx221_4, hl221_2, hi221_2, hl221_3, hi221_3⟩ := at_T104 HR2.out x9_1 p221 q221
      cases e221
      try replace hx221_0 := cB HB hx221_0
      try replace hx221_1 := cB HB hx221_1
      try replace hx221_2 := cB HB hx221_2
      try replace hx221_3 := cB HB hx221_3
      try replace hx221_4 := cB HB hx221_4
      have HR221_2 := ak hi221_2; have HC221_2 := ak hl221_2; clear hi221_2 hl221_2; have HR221_3 := ak hi221_3; have HC221_3 := ak hl221_3; clear hi221_3 hl221_3; replace p221 := eq_true p221; replace q221 := eq_true q221; go_wp2_with (first | ((with_reducible refine gate_callee (f := 74) rfl ?_); refine goB 24 Try.func74 #[.agg #[.int .i64 ((rd_T104 l2 x9_1).f0), .int .i64 ((rd_T104 l2 x9_1).f1), .slice A221_2 ((rd_T104 l2 x9_1).f2).length c221_2, .slice A221_3 ((rd_T104 l2 x9_1).f3).length c221_3, .int .i64 ((rd_T104 l2 x9_1).f4)]] rfl ?_; (with_reducible refine (spec_JobOk.calls k1 ((rd_T104 l2 x9_1).f0) ((rd_T104 l2 x9_1).f1) _ _ ((rd_T104 l2 x9_1).f2) _ _ ((rd_T104 l2 x9_1).f3) ((rd_T104 l2 x9_1).f4) false _ ?side1 ?side2 ?side3 ?side4 A12.out).mono ?_); (case side1 => exact xq28); (case side2 => exact HC221_2.out); (case side3 => exact xq29); (case side4 => exact HC221_3.out); rintro e w19 ⟨rfl, hb⟩; refine ⟨_, rfl, ?_⟩; replace HO_8 := ak (Kd.R_below (rF HO_8) hb); replace HB := bS hb; (try clear hb)))
      go_meet
      case rel => exact ⟨_, (true), eqA, H', ⟨xq11⟩, ⟨rA HO_8⟩, ⟨belA⟩⟩
    subst c13; have H1 : ((spec_l01In.f a1 0 (wrap64 (2147483647 - x9_1))).bind fun t223 => (if t223 = true then ((spec_l01In.f a0 0 99).bind fun t224 => (spec_PackJobs.j1 k1 a0 a1 l2 x8_1 x9_1 (!t224))) else (spec_PackJobs.j1 k1 a0 a1 l2 x8_1 x9_1 true))) = some (r1, r2) := by rw [if_pos rfl] at H; exact H
    clear H; have H := H1; clear H1; replace H := Option.bind_eq_some_iff.mp H; obtain ⟨t223, A140, H⟩ := H; (try dsimp only at H); have A14 := ak A140; clear A140
    by_cases c15 : t223 = true; rotate_left
    · replace c15 := Bool.eq_false_iff.mpr c15; subst c15; have H1 : (spec_PackJobs.j1 k1 a0 a1 l2 x8_1 x9_1 true) = some (r1, r2) := by rw [if_neg (show ¬ (false = true) by decide)] at H; exact H
      clear H; have H := H1; clear H1; have H' := ak H; clear H; have p221 : 0 ≤ (x9_1 : Int) := odA; have q221 : x9_1 < (l2.length : Int) := odA; obtain ⟨ad221, A221_2, c221_2, A221_3, c221_3, e221, hx221_0, hx221_1, hx221_2, hx221_3, hx221_4, hl221_2, hi221_2, hl221_3, hi221_3⟩ := at_T104 HR2.out x9_1 p221 q221
      cases e221
      try replace hx221_0 := cB HB hx221_0
      try replace hx221_1 := cB HB hx221_1
      try replace hx221_2 := cB HB hx221_2
      try replace hx221_3 := cB HB hx221_3
      try replace hx221_4 := cB HB hx221_4
      have HR221_2 := ak hi221_2; have HC221_2 := ak hl221_2; clear hi221_2 hl221_2; have HR221_3 := ak hi221_3; have HC221_3 := ak hl221_3; clear hi221_3 hl221_3; replace p221 := eq_true p221; replace q221 := eq_true q221; go_wp2_with (first | ((with_reducible refine gate_callee (f := 74) rfl ?_); refine goB 24 Try.func74 #[.agg #[.int .i64 ((rd_T104 l2 x9_1).f0), .int .i64 ((rd_T104 l2 x9_1).f1), .slice A221_2 ((rd_T104 l2 x9_1).f2).length c221_2, .slice A221_3 ((rd_T104 l2 x9_1).f3).length c221_3, .int .i64 ((rd_T104 l2 x9_1).f4)]] rfl ?_; (with_reducible refine (spec_JobOk.calls k1 ((rd_T104 l2 x9_1).f0) ((rd_T104 l2 x9_1).f1) _ _ ((rd_T104 l2 x9_1).f2) _ _ ((rd_T104 l2 x9_1).f3) ((rd_T104 l2 x9_1).f4) true _ ?side1 ?side2 ?side3 ?side4 A12.out).mono ?_); (case side1 => exact xq28); (case side2 => exact HC221_2.out); (case side3 => exact xq29); (case side4 => exact HC221_3.out); rintro e w18 ⟨rfl, hb⟩; refine ⟨_, rfl, ?_⟩; replace HO_8 := ak (Kd.R_below (rF HO_8) hb); replace HB := bS hb; (try clear hb)) | (go_at_call 60; (with_reducible refine (spec_l01In.calls a1 0 (wrap64 (2147483647 - x9_1)) false _ A14.out).mono ?_); rintro e w' ⟨rfl, ⟨nd, rfl⟩⟩))
      go_meet
      case rel => exact ⟨_, (true), eqA, H', ⟨xq11⟩, ⟨rA HO_8⟩, ⟨belA⟩⟩
    subst c15; have H1 : ((spec_l01In.f a0 0 99).bind fun t224 => (spec_PackJobs.j1 k1 a0 a1 l2 x8_1 x9_1 (!t224))) = some (r1, r2) := by rw [if_pos rfl] at H; exact H
    clear H; have H := H1; clear H1; replace H := Option.bind_eq_some_iff.mp H; obtain ⟨t224, A160, H⟩ := H; (try dsimp only at H); have A16 := ak A160; clear A160; have H' := ak H; clear H; have p221 : 0 ≤ (x9_1 : Int) := odA; have q221 : x9_1 < (l2.length : Int) := odA; obtain ⟨ad221, A221_2, c221_2, A221_3, c221_3, e221, hx221_0, hx221_1, hx221_2, hx221_3, hx221_4, hl221_2, hi221_2, hl221_3, hi221_3⟩ := at_T104 HR2.out x9_1 p221 q221
    cases e221
    try replace hx221_0 := cB HB hx221_0
    try replace hx221_1 := cB HB hx221_1
    try replace hx221_2 := cB HB hx221_2
    try replace hx221_3 := cB HB hx221_3
    try replace hx221_4 := cB HB hx221_4
    have HR221_2 := ak hi221_2; have HC221_2 := ak hl221_2; clear hi221_2 hl221_2; have HR221_3 := ak hi221_3; have HC221_3 := ak hl221_3; clear hi221_3 hl221_3; replace p221 := eq_true p221; replace q221 := eq_true q221; go_wp2_with (first | ((with_reducible refine gate_callee (f := 74) rfl ?_); refine goB 24 Try.func74 #[.agg #[.int .i64 ((rd_T104 l2 x9_1).f0), .int .i64 ((rd_T104 l2 x9_1).f1), .slice A221_2 ((rd_T104 l2 x9_1).f2).length c221_2, .slice A221_3 ((rd_T104 l2 x9_1).f3).length c221_3, .int .i64 ((rd_T104 l2 x9_1).f4)]] rfl ?_; (with_reducible refine (spec_JobOk.calls k1 ((rd_T104 l2 x9_1).f0) ((rd_T104 l2 x9_1).f1) _ _ ((rd_T104 l2 x9_1).f2) _ _ ((rd_T104 l2 x9_1).f3) ((rd_T104 l2 x9_1).f4) true _ ?side1 ?side2 ?side3 ?side4 A12.out).mono ?_); (case side1 => exact xq28); (case side2 => exact HC221_2.out); (case side3 => exact xq29); (case side4 => exact HC221_3.out); rintro e w17 ⟨rfl, hb⟩; refine ⟨_, rfl, ?_⟩; replace HO_8 := ak (Kd.R_below (rF HO_8) hb); replace HB := bS hb; (try clear hb)) | (go_at_call 60; (with_reducible refine (spec_l01In.calls a1 0 (wrap64 (2147483647 - x9_1)) true _ A14.out).mono ?_); rintro e w' ⟨rfl, ⟨nd, rfl⟩⟩) | (go_at_call 60; (with_reducible refine (spec_l01In.calls a0 0 99 t224 _ A16.out).mono ?_); rintro e w' ⟨rfl, ⟨nd, rfl⟩⟩))
    go_meet
    case rel => exact ⟨_, (!t224), eqA, H', ⟨xq11⟩, ⟨rA HO_8⟩, ⟨belA⟩⟩
   case rest =>
    clear HC10; obtain ⟨kq, x37_9, rfl, HA, HJ9, HO_8, HB⟩ := hcut
    cases kq with
    | zero => exact absurd HA.out (by simp [spec_PackJobs.j1])
    | succ kj9 =>
     have H := HA.out; clear HA; simp only [spec_PackJobs.j1] at H
     by_cases c20 : x37_9 = true
     · subst c20; have H1 : (some (([] : List Int), false)) = some (r1, r2) := by rw [if_pos rfl] at H; exact H
       clear H; have H := H1; clear H1; simp only [Option.some.injEq, Prod.mk.injEq] at H; obtain ⟨rfl, rfl⟩ := H; go_wp2
       go_ret2
       exact ⟨_, xq1, xq9, belA⟩
     replace c20 := Bool.eq_false_iff.mpr c20; subst c20; have H1 : (if 0 ≤ x9_1 then (if x9_1 < (l2.length : Int) then ((spec_EncodeJob.f kj9 ((rd_T104 l2 x9_1).f0) ((rd_T104 l2 x9_1).f1) ((rd_T104 l2 x9_1).f2) ((rd_T104 l2 x9_1).f3) ((rd_T104 l2 x9_1).f4)).bind fun t226 => ((spec_EncodeFrame.f kj9 a0 (wrap64 (a1 + x9_1)) t226).bind fun t229 => ((spec_l01Join.f kj9 x8_1 t229).bind fun t232 => (spec_PackJobs.l0 kj9 a0 a1 l2 t232 (wrap64 (x9_1 + 1)))))) else (none)) else (none)) = some (r1, r2) := by rw [if_neg (show ¬ (false = true) by decide)] at H; exact H
     clear H; have H := H1; clear H1
     by_cases c21 : 0 ≤ x9_1; rotate_left
     · rw [if_neg c21] at H; exact absurd H (by simp)
     rw [if_pos c21] at H; have c21b0 := decide_eq_true c21; clear c21
     by_cases c22 : x9_1 < (l2.length : Int); rotate_left
     · rw [if_neg c22] at H; exact absurd H (by simp)
     rw [if_pos c22] at H; have c22b0 := decide_eq_true c22; clear c22; replace H := Option.bind_eq_some_iff.mp H; obtain ⟨t226, A230, H⟩ := H; (try dsimp only at H); have A23 := ak A230; clear A230; replace H := Option.bind_eq_some_iff.mp H; obtain ⟨t229, A240, H⟩ := H; (try dsimp only at H); have A24 := ak A240; clear A240; replace H := Option.bind_eq_some_iff.mp H; obtain ⟨t232, A250, H⟩ := H; (try dsimp only at H); have A25 := ak A250; clear A250; have H' := ak H; clear H; have p225 : 0 ≤ (x9_1 : Int) := odA; have q225 : x9_1 < (l2.length : Int) := odA; obtain ⟨ad225, A225_2, c225_2, A225_3, c225_3, e225, hx225_0, hx225_1, hx225_2, hx225_3, hx225_4, hl225_2, hi225_2, hl225_3, hi225_3⟩ := at_T104 HR2.out x9_1 p225 q225
     cases e225
     try replace hx225_0 := cB HB hx225_0
     try replace hx225_1 := cB HB hx225_1
     try replace hx225_2 := cB HB hx225_2
     try replace hx225_3 := cB HB hx225_3
     try replace hx225_4 := cB HB hx225_4
     have HR225_2 := ak hi225_2; have HC225_2 := ak hl225_2; clear hi225_2 hl225_2; have HR225_3 := ak hi225_3; have HC225_3 := ak hl225_3; clear hi225_3 hl225_3; replace p225 := eq_true p225; replace q225 := eq_true q225; go_wp2_with (first | ((with_reducible refine gate_callee (f := 77) rfl ?_); refine goB 47 Try.func77 #[.agg #[.int .i64 ((rd_T104 l2 x9_1).f0), .int .i64 ((rd_T104 l2 x9_1).f1), .slice A225_2 ((rd_T104 l2 x9_1).f2).length c225_2, .slice A225_3 ((rd_T104 l2 x9_1).f3).length c225_3, .int .i64 ((rd_T104 l2 x9_1).f4)]] rfl ?_; (with_reducible refine (spec_EncodeJob.calls kj9 ((rd_T104 l2 x9_1).f0) ((rd_T104 l2 x9_1).f1) _ _ ((rd_T104 l2 x9_1).f2) _ _ ((rd_T104 l2 x9_1).f3) ((rd_T104 l2 x9_1).f4) t226 _ ?side1 ?side2 ?side3 ?side4 A23.out).mono ?_); (case side1 => exact cA (Kd.C_below HR225_2.out HB.out)); (case side2 => exact HC225_2.out); (case side3 => exact cA (Kd.C_below HR225_3.out HB.out)); (case side4 => exact HC225_3.out); rintro e w26 ⟨v227, rfl, ho0, hb⟩; refine ⟨_, rfl, ?_⟩; have HO228 := rL (Kd.R_new' ho0 (Kd.R_lt (rF HO_8))); replace HO_8 := ak (Kd.R_elder' (rF HO_8) (Kd.R_base ho0) hb); replace HB := bS hb; (try clear hb ho0); obtain ⟨Ao27, co27, eo27⟩ := Kd.R_slice HO228.out; subst eo27) | ((with_reducible refine gate_callee (f := 76) rfl ?_); refine goB 49 Try.func76 #[.agg #[.int .i64 a0, .int .i64 (wrap64 (a1 + x9_1)), .slice Ao27 t226.length co27]] rfl ?_; (with_reducible refine (spec_EncodeFrame.calls kj9 a0 (wrap64 (a1 + x9_1)) _ _ t226 t229 _ ?side1 ?side2 A24.out).mono ?_); (case side1 => exact cA ((Kd.R_reads' HO228.out).2.2)); (case side2 => exact (Kd.R_reads' HO228.out).2.1); rintro e w28 ⟨v230, rfl, ho0, hb⟩; refine ⟨_, rfl, ?_⟩; have HO231 := rL (Kd.R_new' (Kd.R_new' ho0 (Kd.R_lt (rF HO_8))) (Kd.R_lt (rF HO228))); replace HO_8 := ak (Kd.R_elder' (rF HO_8) (Kd.R_base ho0) hb); replace HO228 := ak (Kd.R_elder' (rF HO228) (Kd.R_base ho0) hb); replace HB := bS hb; (try clear hb ho0); obtain ⟨Ao29, co29, eo29⟩ := Kd.R_slice HO_8.out; subst eo29; obtain ⟨Ao30, co30, eo30⟩ := Kd.R_slice HO231.out; subst eo30) | ((with_reducible refine gate_callee (f := 75) rfl ?_); refine goB 50 Try.func75 #[.slice Ao29 x8_1.length co29, .slice Ao30 t229.length co30] rfl ?_; (with_reducible refine (spec_l01Join.calls kj9 _ _ x8_1 _ _ t229 t232 _ ?side1 ?side2 ?side3 ?side4 A25.out).mono ?_); (case side1 => exact cA ((Kd.R_reads' HO_8.out).2.2)); (case side2 => exact (Kd.R_reads' HO_8.out).2.1); (case side3 => exact cA ((Kd.R_reads' HO231.out).2.2)); (case side4 => exact (Kd.R_reads' HO231.out).2.1); rintro e w31 ⟨v233, rfl, ho0, hb⟩; refine ⟨_, rfl, ?_⟩; have HO234 := rL (Kd.R_new' (Kd.R_new' (Kd.R_new' ho0 (Kd.R_lt (rF HO_8))) (Kd.R_lt (rF HO228))) (Kd.R_lt (rF HO231))); replace HO_8 := ak (Kd.R_elder' (rF HO_8) (Kd.R_base ho0) hb); replace HO228 := ak (Kd.R_elder' (rF HO228) (Kd.R_base ho0) hb); replace HO231 := ak (Kd.R_elder' (rF HO231) (Kd.R_base ho0) hb); replace HB := bS hb; (try clear hb ho0)))
     go_roundg kj9
     case measure => have := HK1.out; have := HJ9.out; omega
     case rel => exact ⟨(t232), (wrap64 (x9_1 + 1)), eqA, H', ⟨by have := HK1.out; have := HJ9.out; omega⟩, ⟨rE (Kd.R_mono HO234.out (fun _ hk => trivial))⟩, ⟨belA⟩⟩

def laws_toIntS.l0 : Nat → List Int → List Int → Int → Option (List Int)
 | 0, _, _, _ => none
 | k + 1, x0, x3, x4 => if x4 < (x0.length : Int) then (if 0 ≤ x4 then (if x4 < (x3.length : Int) then (laws_toIntS.l0 k x0 (x3.set (x4 : Int).toNat (rd x0 x4)) (wrap64 (x4 + 1))) else (none)) else (none)) else (some x3)
def laws_toIntS.f (k : Nat) (l0 : List Int) : Option (List Int) := if 0 ≤ (l0.length : Int) then (if ((l0.length : Int) : Int).toNat ≤ 35184372088832 then (laws_toIntS.l0 k l0 (List.replicate ((l0.length : Int) : Int).toNat 0) 0) else (none)) else (none)
theorem laws_toIntS.mono_l : ∀ k, (∀ y0 y1 y2, LeO (laws_toIntS.l0 k y0 y1 y2) (laws_toIntS.l0 (k + 1) y0 y1 y2))
 | 0 => fun _ _ _ r h => by simp [laws_toIntS.l0] at h
 | k + 1 => by
  have ih0 := laws_toIntS.mono_l k
  · intro y0 y1 y2; unfold laws_toIntS.l0; exact xq5
theorem laws_toIntS.mono : ∀ a0 k, LeO (laws_toIntS.f k a0) (laws_toIntS.f (k + 1) a0) := by
 intro a0 k; have ih0 := laws_toIntS.mono_l k
 unfold laws_toIntS.f
 exact xq5
theorem laws_toIntS.calls (k : Nat) (A0 : Option Addr) (c0 : Nat) (l0 : List Int) (r : List Int) (w : World) (hr0 : Kd.C (Kd.int .i64) w A0 l0.length l0) (hc0 : l0.length ≤ c0) (h : laws_toIntS.f k l0 = some r) :
 Calls Try.prog 38 #[.slice A0 l0.length c0] w fun e w' => ∃ v0_ : Value, e = .returned (v0_) ∧ Kd.R (Kd.int .i64) 3 w' w.heap.size (fun _ => True) v0_ r ∧ Below w.heap.size w w' := by
 have HR0 := ak hr0; have HC0 := ak hc0; clear hr0 hc0; have HB := ak (Below.refl w.heap.size w); have H : (if 0 ≤ (l0.length : Int) then (if ((l0.length : Int) : Int).toNat ≤ 35184372088832 then (laws_toIntS.l0 k l0 (List.replicate ((l0.length : Int) : Int).toNat 0) 0) else (none)) else (none)) = some r := h; clear h
 by_cases c2 : 0 ≤ (l0.length : Int); rotate_left
 · rw [if_neg c2] at H; exact absurd H (by simp)
 rw [if_pos c2] at H; have c2b0 := eq_true c2; have c2b1 : decide (0 ≤ (l0.length : Int)) = true := decide_eq_true c2; clear c2
 by_cases c3 : ((l0.length : Int) : Int).toNat ≤ 35184372088832; rotate_left
 · rw [if_neg c3] at H; exact absurd H (by simp)
 rw [if_pos c3] at H; have c3b0 := eq_true c3; have c3b1 : decide (((l0.length : Int) : Int).toNat ≤ 35184372088832) = true := decide_eq_true c3; clear c3; obtain ⟨y235, hyq⟩ : ∃ y_ : List Int, y_ = (List.replicate ((l0.length : Int) : Int).toNat 0) := ⟨_, rfl⟩; replace H : (laws_toIntS.l0 k l0 y235 0) = some r := by first | (rw [hyq]; with_reducible exact H) | (have H2_ := (Option.bind_some _ _).symm.trans H; rw [hyq]; with_reducible exact H2_) | (have H2_ := (Option.bind_some _ _).symm.trans H; with_reducible exact H2_) | with_reducible exact H | (rw [hyq]; exact H) | exact H
 have Ny235 := ak hyq; clear hyq; have H' := ak H; clear H; go_enter Try.func38, Try.ntmps38
 go_wp2_with (first | ((with_reducible refine gate_dst (N := 7) rfl ?_); refine Kd.R_make (Kd.int .i64) _ 3 rfl (N := 7) rfl 27 _ _ rfl (l0.length : Int) rfl rfl Try.underlying27 (.int .i64 0) 8 info3 rfl (by decide) (by omega) 0 (ok := fun _ => True) (okp := fun _ => True) rfl (fun _ hk => hk) trivial (odA) (Nat.le_trans (Nat.mul_le_mul_right _ (odA : (l0.length : Int).toNat ≤ 35184372088832)) (by omega)) (Below.refl _ _) (Nat.le_refl _) ?_; intro v236 w4 ho5 hb hg_ hnew_; clear hg_ hnew_; (first | rw [← Ny235.out] at ho5 | (simp only [Int.reduceToNat] at ho5; rw [← Ny235.out] at ho5)); have HO237 := rL ho5; replace HB := bS hb; clear hb ho5))
 go_loopg [4] k (fun kq v4 w' => ∃ (x3_1 : List Int) (x4_1 : Int), v4 = .int .i64 x4_1 ∧ Aside0 (laws_toIntS.l0 kq l0 x3_1 x4_1 = some r) ∧ Aside0 (kq ≤ k) ∧ Aside0 (Kd.R (Kd.int .i64) 3 w' w.heap.size (fun _ => True) v236 x3_1) ∧ Aside0 (Below w.heap.size w w'))
 case atStart => exact ⟨(y235), (0), eqA, H', ⟨Nat.le_refl _⟩, ⟨rA HO237⟩, ⟨belA⟩⟩
 case round =>
  clear H'; obtain ⟨x3_1, x4_1, rfl, HA, HK1, HO_3, HB⟩ := hrel
  cases gk with
  | zero => exact absurd HA.out (by simp [laws_toIntS.l0])
  | succ k1 =>
   have H := HA.out; clear HA; simp only [laws_toIntS.l0] at H
   by_cases c6 : x4_1 < (l0.length : Int); rotate_left
   · rw [if_neg c6] at H; have c6b0 := decide_eq_false c6; clear c6; obtain rfl := Option.some.inj H; go_wp2
     go_ret
     exact ⟨_, xq1, xq22, belA⟩
   rw [if_pos c6] at H; have c6b0 := decide_eq_true c6; clear c6
   by_cases c7 : 0 ≤ x4_1; rotate_left
   · rw [if_neg c7] at H; exact absurd H (by simp)
   rw [if_pos c7] at H; have c7b0 := decide_eq_true c7; clear c7
   by_cases c8 : x4_1 < (x3_1.length : Int); rotate_left
   · rw [if_neg c8] at H; exact absurd H (by simp)
   rw [if_pos c8] at H; have c8b0 := decide_eq_true c8; clear c8; obtain ⟨y239, hyq⟩ : ∃ y_ : List Int, y_ = (x3_1.set (x4_1 : Int).toNat (rd l0 x4_1)) := ⟨_, rfl⟩; replace H : (laws_toIntS.l0 k1 l0 y239 (wrap64 (x4_1 + 1))) = some r := by first | (rw [hyq]; with_reducible exact H) | (have H2_ := (Option.bind_some _ _).symm.trans H; rw [hyq]; with_reducible exact H2_) | (have H2_ := (Option.bind_some _ _).symm.trans H; with_reducible exact H2_) | with_reducible exact H | (rw [hyq]; exact H) | exact H
   have Ny239 := ak hyq; clear hyq; have H' := ak H; clear H; have p238 : 0 ≤ (x4_1 : Int) := odA; have q238 : x4_1 < (l0.length : Int) := odA; obtain ⟨ad238, e238, hx238_0⟩ := Kd.at_int HR0.out x4_1 p238 q238
   cases e238
   try replace hx238_0 := cB HB hx238_0
   replace p238 := eq_true p238; replace q238 := eq_true q238; have p9 : 0 ≤ (x4_1 : Int) := odA; have q9 : (x4_1 : Int) < ((x3_1.length : Int) : Int) := odA; obtain ⟨go9, co9, eo9, gb9, gl9, cl9, HG9⟩ := Kd.R_form HO_3.out (by omega); (first | cases eo9 | (injection eo9 with ea_ en_ ec_; (first | subst ea_ | (injection ea_ with ea_; subst ea_)); subst ec_; clear en_))
   have GB9 := ak gb9; have GG9 := ak HG9; clear gb9 gl9 HG9; obtain ⟨hx9_0, hf9_0⟩ := Kd.R_celln 0 HO_3.out (x4_1 : Int) p9 q9; replace p9 := eq_true p9; replace q9 := eq_true q9; have HP10 := Kd.R_putg HO_3.out (x4_1 : Int) (rd l0 x4_1); go_wp2_with (first | ((with_reducible refine gate_store (t := 3) (p := 20) rfl ?_); refine store_event (t := 3) (p := 20) (v := ?vo_w11) (w1 := (wr.setCell ⟨go9, (x4_1 : Int).toNat, none⟩ (.int .i64 (rd l0 x4_1)))) ?hg ?ho ?hn ?hr ?_; (case ho => rfl); (case hg => rfl); (case hn => rfl); (case hr => exact xq4); intro w11 hw; have hg : wr.grownBy w11 (some go9) := (by rw [hw]; exact HP10.2); have hp_ : Kd.R (Kd.int .i64) 3 w11 w.heap.size (fun _ => True) (.slice (some ⟨go9, 0, none⟩) x3_1.length co9) y239 := (by rw [hw, Ny239.out]; exact HP10.1); clear HP10; replace HO_3 := ak hp_; replace HB := ak ((by rw [hw]; exact below_set (HB.out) GB9.out : Below w.heap.size w w11)); clear hg hw hp_))
   go_roundg k1
   case measure => have := HK1.out; omega
   case rel => exact ⟨(y239), (wrap64 (x4_1 + 1)), eqA, H', ⟨xq6⟩, ⟨rA HO_3⟩, ⟨belA⟩⟩

def laws_toJob.f (k : Nat) (a0_0 : Int) (a0_1 : Int) (l0_2 : List Int) (l0_3 : List Int) (a0_4 : Int) : Option (Int × Int × List Int × List Int × Int) := (laws_toIntS.f k l0_2).bind fun t243 => ((laws_toIntS.f k l0_3).bind fun t246 => (some (a0_0, a0_1, t243, t246, a0_4)))
theorem laws_toJob.mono : ∀ a0 a1 a2 a3 a4 k, LeO (laws_toJob.f k a0 a1 a2 a3 a4) (laws_toJob.f (k + 1) a0 a1 a2 a3 a4) := by
 intro a0 a1 a2 a3 a4 k
 unfold laws_toJob.f
 exact (by repeat' (with_reducible first | exact laws_toIntS.mono _ _ | exact LeO.refl _ | exact LeO.none _ | refine LeO.ite ?_ ?_ | refine LeO.bind ?_ (fun _ => ?_)))
theorem laws_toJob.calls (k : Nat) (a0_0 : Int) (a0_1 : Int) (A0_2 : Option Addr) (c0_2 : Nat) (l0_2 : List Int) (A0_3 : Option Addr) (c0_3 : Nat) (l0_3 : List Int) (a0_4 : Int) (r1 : Int) (r2 : Int) (r3 : List Int) (r4 : List Int) (r5 : Int) (w : World) (hr0_2 : Kd.C (Kd.int .i64) w A0_2 l0_2.length l0_2) (hc0_2 : l0_2.length ≤ c0_2) (hr0_3 : Kd.C (Kd.int .i64) w A0_3 l0_3.length l0_3) (hc0_3 : l0_3.length ≤ c0_3) (h : laws_toJob.f k a0_0 a0_1 l0_2 l0_3 a0_4 = some (r1, r2, r3, r4, r5)) :
 Calls Try.prog 78 #[.agg #[.int .i64 a0_0, .int .i64 a0_1, .slice A0_2 l0_2.length c0_2, .slice A0_3 l0_3.length c0_3, .int .i64 a0_4]] w fun e w' => ∃ v2_ v3_ : Value, e = .returned (.agg #[.int .i64 r1, .int .i64 r2, v2_, v3_, .int .i64 r5]) ∧ Kd.R (Kd.int .i64) 3 w' w.heap.size (fun k_ => some k_ ≠ (v3_ : Value).ownBlock) v2_ r3 ∧ Kd.R (Kd.int .i64) 3 w' w.heap.size (fun k_ => some k_ ≠ (v2_ : Value).ownBlock) v3_ r4 ∧ Below w.heap.size w w' := by
 have hu102 := Try.underlying102; have hu104 := Try.underlying104; have HR0_2 := ak hr0_2; have HC0_2 := ak hc0_2; clear hr0_2 hc0_2; have HR0_3 := ak hr0_3; have HC0_3 := ak hc0_3; clear hr0_3 hc0_3; have HB := ak (Below.refl w.heap.size w); have H : ((laws_toIntS.f k l0_2).bind fun t243 => ((laws_toIntS.f k l0_3).bind fun t246 => (some (a0_0, a0_1, t243, t246, a0_4)))) = some (r1, r2, r3, r4, r5) := h; clear h; replace H := Option.bind_eq_some_iff.mp H; obtain ⟨t243, A20, H⟩ := H; (try dsimp only at H); have A2 := ak A20; clear A20; replace H := Option.bind_eq_some_iff.mp H; obtain ⟨t246, A30, H⟩ := H; (try dsimp only at H); have A3 := ak A30; clear A30; simp only [Option.some.injEq, Prod.mk.injEq] at H; obtain ⟨rfl, rfl, rfl, rfl, rfl⟩ := H; go_enter Try.func78, Try.ntmps78
 go_wp2_with (first | ((with_reducible refine gate_dst (N := 1) rfl ?_); refine boxA 1 #[.int .i64 a0_0, .int .i64 a0_1, .slice A0_2 l0_2.length c0_2, .slice A0_3 l0_3.length c0_3, .int .i64 a0_4] 102 ?_; intro gb240 hg w4 hbox hb; have BK240 := ak hbox; have GW240 := leA (w := w) hg; have GE240 := leA (w := w) hg; replace HB := bS hb; clear hb hbox hg) | ((with_reducible refine gate_dst (N := 2) rfl ?_); refine boxA 2 #[.int .i64 0, .int .i64 0, .slice none 0 0, .slice none 0 0, .int .i64 0] 104 ?_; intro gb241 hg w5 hbox hb; have BK241 := ak hbox; have GW241 := leA (w := w) hg; have GE241 := leA (w := w) hg; have NB240_241 := neL hg BK240; have NB241_240 := neG hg BK240; replace BK240 := bB BK240 hb; replace HB := bS hb; clear hb hbox hg) | ((with_reducible refine gate_dst (N := 3) rfl ?_); refine boxA 3 #[.int .i64 0, .int .i64 0, .slice none 0 0, .slice none 0 0, .int .i64 0] 104 ?_; intro gb242 hg w6 hbox hb; have BK242 := ak hbox; have GW242 := leA (w := w) hg; have GE242 := leA (w := w) hg; have NB240_242 := neL hg BK240; have NB242_240 := neG hg BK240; have NB241_242 := neL hg BK241; have NB242_241 := neG hg BK241; replace BK240 := bB BK240 hb; replace BK241 := bB BK241 hb; replace HB := bS hb; clear hb hbox hg; have hnb7 := NB240_241.out; have hnc7 := NB241_240.out; have hnb8 := NB240_242.out; have hnc8 := NB242_240.out; obtain ⟨_, _, _, _, _, _, _, _, _, _⟩ := cel5 BK240; have hnb10 := NB242_241.out; have hnc10 := NB241_242.out; obtain ⟨_, _, _, _, _, _, _, _, _, _⟩ := cel5 BK242) | ((with_reducible refine gate_callee (f := 38) rfl ?_); refine goB 12 Try.func38 #[.slice A0_2 l0_2.length c0_2] rfl ?_; (with_reducible refine (laws_toIntS.calls k _ _ l0_2 t243 _ ?side1 ?side2 A2.out).mono ?_); (case side1 => exact Kd.C_below HR0_2.out belA); (case side2 => exact HC0_2.out); rintro e w12 ⟨v244, rfl, ho0, hb⟩; refine ⟨_, rfl, ?_⟩; have HO245 := rL ho0; replace BK240 := ak (blk_below (g := gb240) (o := .cells #[.int .i64 a0_0, .int .i64 a0_1, .slice A0_2 l0_2.length c0_2, .slice A0_3 l0_3.length c0_3, .int .i64 a0_4] 102 (0, 0)) (by (with_reducible repeat (first | refine blk_drewN ?_ _ | refine blk_drew ?_ | refine blk_alloc ?_ _)); refine blk_far ?_ NB240_242.out _; (with_reducible repeat (first | refine blk_drewN ?_ _ | refine blk_drew ?_ | refine blk_alloc ?_ _)); refine blk_far ?_ NB240_242.out _; (with_reducible repeat (first | refine blk_drewN ?_ _ | refine blk_drew ?_ | refine blk_alloc ?_ _)); exact BK240.out) hb); replace BK241 := ak (blk_below (g := gb241) (o := .cells #[.int .i64 0, .int .i64 0, .slice none 0 0, .slice none 0 0, .int .i64 0] 104 (0, 0)) (by (with_reducible repeat (first | refine blk_drewN ?_ _ | refine blk_drew ?_ | refine blk_alloc ?_ _)); refine blk_far ?_ NB241_242.out _; (with_reducible repeat (first | refine blk_drewN ?_ _ | refine blk_drew ?_ | refine blk_alloc ?_ _)); refine blk_far ?_ NB241_242.out _; (with_reducible repeat (first | refine blk_drewN ?_ _ | refine blk_drew ?_ | refine blk_alloc ?_ _)); exact BK241.out) hb); replace BK242 := ak (blk_below (g := gb242) (o := .cells #[.int .i64 a0_0, .int .i64 a0_1, .slice none 0 0, .slice none 0 0, .int .i64 0] 104 (0, 0)) (by (with_reducible repeat (first | refine blk_drewN ?_ _ | refine blk_drew ?_ | refine blk_alloc ?_ _)); refine blk_put (cs := #[.int .i64 a0_0, .int .i64 0, .slice none 0 0, .slice none 0 0, .int .i64 0]) ?_ 1 _ rfl; (with_reducible repeat (first | refine blk_drewN ?_ _ | refine blk_drew ?_ | refine blk_alloc ?_ _)); refine blk_put (cs := #[.int .i64 0, .int .i64 0, .slice none 0 0, .slice none 0 0, .int .i64 0]) ?_ 0 _ rfl; (with_reducible repeat (first | refine blk_drewN ?_ _ | refine blk_drew ?_ | refine blk_alloc ?_ _)); exact BK242.out) hb); replace HB := bS hb; (try clear hb ho0); obtain ⟨Ao13, co13, eo13⟩ := Kd.R_slice HO245.out; subst eo13; obtain ⟨_, _, _, _, _, _, _, _, _, _⟩ := cel5 BK242; obtain ⟨_, _, _, _, _, _, _, _, _, _⟩ := cel5 BK240) | ((with_reducible refine gate_callee (f := 38) rfl ?_); refine goB 16 Try.func38 #[.slice A0_3 l0_3.length c0_3] rfl ?_; (with_reducible refine (laws_toIntS.calls k _ _ l0_3 t246 _ ?side1 ?side2 A3.out).mono ?_); (case side1 => exact Kd.C_below HR0_3.out belA); (case side2 => exact HC0_3.out); rintro e w16 ⟨v247, rfl, ho0, hb⟩; refine ⟨_, rfl, ?_⟩; have HO248 := rL (Kd.R_new' ho0 (Kd.R_lt (rG HO245 BK242))); replace HO245 := ak (Kd.R_elder' (rG HO245 BK242) (Kd.R_base ho0) hb); replace BK240 := ak (blk_below (g := gb240) (o := .cells #[.int .i64 a0_0, .int .i64 a0_1, .slice A0_2 l0_2.length c0_2, .slice A0_3 l0_3.length c0_3, .int .i64 a0_4] 102 (0, 0)) (by (with_reducible repeat (first | refine blk_drewN ?_ _ | refine blk_drew ?_ | refine blk_alloc ?_ _)); refine blk_far ?_ NB240_242.out _; (with_reducible repeat (first | refine blk_drewN ?_ _ | refine blk_drew ?_ | refine blk_alloc ?_ _)); exact BK240.out) hb); replace BK241 := ak (blk_below (g := gb241) (o := .cells #[.int .i64 0, .int .i64 0, .slice none 0 0, .slice none 0 0, .int .i64 0] 104 (0, 0)) (by (with_reducible repeat (first | refine blk_drewN ?_ _ | refine blk_drew ?_ | refine blk_alloc ?_ _)); refine blk_far ?_ NB241_242.out _; (with_reducible repeat (first | refine blk_drewN ?_ _ | refine blk_drew ?_ | refine blk_alloc ?_ _)); exact BK241.out) hb); replace BK242 := ak (blk_below (g := gb242) (o := .cells #[.int .i64 a0_0, .int .i64 a0_1, .slice Ao13 t243.length co13, .slice none 0 0, .int .i64 0] 104 (0, 0)) (by (with_reducible repeat (first | refine blk_drewN ?_ _ | refine blk_drew ?_ | refine blk_alloc ?_ _)); refine blk_put (cs := #[.int .i64 a0_0, .int .i64 a0_1, .slice none 0 0, .slice none 0 0, .int .i64 0]) ?_ 2 _ rfl; (with_reducible repeat (first | refine blk_drewN ?_ _ | refine blk_drew ?_ | refine blk_alloc ?_ _)); exact BK242.out) hb); replace HB := bS hb; (try clear hb ho0); obtain ⟨Ao17, co17, eo17⟩ := Kd.R_slice HO248.out; subst eo17; obtain ⟨_, _, _, _, _, _, _, _, _, _⟩ := cel5 BK242; obtain ⟨_, _, _, _, _, _, _, _, _, _⟩ := cel5 BK240; obtain ⟨_, _, _, _, _, _, _, _, _, _⟩ := cel5 BK241))
 refine bodyPost_ret (results_cell_row rfl _ _ gb241 104 #[.int .i64 a0_0, .int .i64 a0_1, .slice Ao13 t243.length co13, .slice Ao17 t246.length co17, .int .i64 a0_4] (0, 0) _ rfl (by (with_reducible repeat (first | refine blk_drewN ?_ _ | refine blk_drew ?_ | refine blk_alloc ?_ _)); refine blk_put (cs := #[.int .i64 a0_0, .int .i64 a0_1, .slice Ao13 t243.length co13, .slice Ao17 t246.length co17, .int .i64 0]) ?_ 4 _ rfl; (with_reducible repeat (first | refine blk_drewN ?_ _ | refine blk_drew ?_ | refine blk_alloc ?_ _)); refine blk_put (cs := #[.int .i64 a0_0, .int .i64 a0_1, .slice Ao13 t243.length co13, .slice none 0 0, .int .i64 0]) ?_ 3 _ rfl; (with_reducible repeat (first | refine blk_drewN ?_ _ | refine blk_drew ?_ | refine blk_alloc ?_ _)); refine blk_put (cs := #[.int .i64 a0_0, .int .i64 a0_1, .slice none 0 0, .slice none 0 0, .int .i64 0]) ?_ 2 _ rfl; (with_reducible repeat (first | refine blk_drewN ?_ _ | refine blk_drew ?_ | refine blk_alloc ?_ _)); refine blk_put (cs := #[.int .i64 a0_0, .int .i64 0, .slice none 0 0, .slice none 0 0, .int .i64 0]) ?_ 1 _ rfl; (with_reducible repeat (first | refine blk_drewN ?_ _ | refine blk_drew ?_ | refine blk_alloc ?_ _)); refine blk_put (cs := #[.int .i64 0, .int .i64 0, .slice none 0 0, .slice none 0 0, .int .i64 0]) ?_ 0 _ rfl; (with_reducible repeat (first | refine blk_drewN ?_ _ | refine blk_drew ?_ | refine blk_alloc ?_ _)); refine blk_far ?_ NB241_242.out _; (with_reducible repeat (first | refine blk_drewN ?_ _ | refine blk_drew ?_ | refine blk_alloc ?_ _)); refine blk_far ?_ NB241_242.out _; (with_reducible repeat (first | refine blk_drewN ?_ _ | refine blk_drew ?_ | refine blk_alloc ?_ _)); exact BK241.out) Try.underlying104 rfl (by kernel_rfl)) rfl ?_
 exact ⟨_, _, xq1, by (with_reducible repeat (first | apply Kd.R_alloc | apply Kd.R_drewN | apply Kd.R_drew)); exact Kd.R_mono (Kd.R_far (p := ⟨gb241, 4, none⟩) (Kd.R_far (p := ⟨gb241, 3, none⟩) (Kd.R_far (p := ⟨gb241, 2, none⟩) (Kd.R_far (p := ⟨gb241, 1, none⟩) (Kd.R_far (p := ⟨gb241, 0, none⟩) (Kd.R_far (p := ⟨gb242, 4, none⟩) (Kd.R_far (p := ⟨gb242, 3, none⟩) (Kd.R_types (Kd.R_types HO245.out BK242.out (by decide)) BK241.out (by decide)) (fun _ hk => hk.1.2) (.slice Ao17 t246.length co17)) (fun _ hk => hk.1.2) (.int .i64 a0_4)) (fun _ hk => hk.2) (.int .i64 a0_0)) (fun _ hk => hk.2) (.int .i64 a0_1)) (fun _ hk => hk.2) (.slice Ao13 t243.length co13)) (fun _ hk => hk.2) (.slice Ao17 t246.length co17)) (fun _ hk => hk.2) (.int .i64 a0_4)) (fun _ hk => hk.1.1.2), by (with_reducible repeat (first | apply Kd.R_alloc | apply Kd.R_drewN | apply Kd.R_drew)); exact Kd.R_mono (Kd.R_far (p := ⟨gb241, 4, none⟩) (Kd.R_far (p := ⟨gb241, 3, none⟩) (Kd.R_far (p := ⟨gb241, 2, none⟩) (Kd.R_far (p := ⟨gb241, 1, none⟩) (Kd.R_far (p := ⟨gb241, 0, none⟩) (Kd.R_far (p := ⟨gb242, 4, none⟩) (Kd.R_far (p := ⟨gb242, 3, none⟩) (Kd.R_types (Kd.R_types HO248.out BK242.out (by decide)) BK241.out (by decide)) (fun _ hk => hk.1.2) (.slice Ao17 t246.length co17)) (fun _ hk => hk.1.2) (.int .i64 a0_4)) (fun _ hk => hk.2) (.int .i64 a0_0)) (fun _ hk => hk.2) (.int .i64 a0_1)) (fun _ hk => hk.2) (.slice Ao13 t243.length co13)) (fun _ hk => hk.2) (.slice Ao17 t246.length co17)) (fun _ hk => hk.2) (.int .i64 a0_4)) (fun _ hk => hk.1.1.2), belA⟩

def laws_toJobS.l0 : Nat → List (S102) → List (S104) → Int → Option ((List (S104)))
 | 0, _, _, _ => none
 | k + 1, x0, x3, x4 => if x4 < (x0.length : Int) then (if 0 ≤ x4 then ((laws_toJob.f k ((rd_T102 x0 x4).f0) ((rd_T102 x0 x4).f1) ((rd_T102 x0 x4).f2) ((rd_T102 x0 x4).f3) ((rd_T102 x0 x4).f4)).bind fun bt253 => (if x4 < (x3.length : Int) then (laws_toJobS.l0 k x0 (x3.set (x4 : Int).toNat (⟨bt253.1, bt253.2.1, bt253.2.2.1, bt253.2.2.2.1, bt253.2.2.2.2⟩ : S104)) (wrap64 (x4 + 1))) else (none))) else (none)) else (some x3)
def laws_toJobS.f (k : Nat) (l0 : List (S102)) : Option ((List (S104))) := if 0 ≤ (l0.length : Int) then (if ((l0.length : Int) : Int).toNat ≤ 3909374676536 then (laws_toJobS.l0 k l0 (List.replicate ((l0.length : Int) : Int).toNat z104) 0) else (none)) else (none)
theorem laws_toJobS.mono_l : ∀ k, (∀ y0 y1 y2, LeO (laws_toJobS.l0 k y0 y1 y2) (laws_toJobS.l0 (k + 1) y0 y1 y2))
 | 0 => fun _ _ _ r h => by simp [laws_toJobS.l0] at h
 | k + 1 => by
  have ih0 := laws_toJobS.mono_l k
  · intro y0 y1 y2; unfold laws_toJobS.l0; exact xq39
theorem laws_toJobS.mono : ∀ a0 k, LeO (laws_toJobS.f k a0) (laws_toJobS.f (k + 1) a0) := by
 intro a0 k; have ih0 := laws_toJobS.mono_l k
 unfold laws_toJobS.f
 exact xq39
theorem laws_toJobS.calls0 (k : Nat) (A0 : Option Addr) (c0 : Nat) (l0 : List (S102)) (r : List (S104)) (w : World) (hr0 : Kd.C k102 w A0 l0.length l0) (hc0 : l0.length ≤ c0) (h : laws_toJobS.f k l0 = some r) :
 Calls Try.prog 23 #[.slice A0 l0.length c0] w fun e w' => ∃ v0_ : Value, e = .returned (v0_) ∧ Kd.S k104a 104 w' w.heap.size (fun _ => True) v0_ r ∧ Below w.heap.size w w' := by
 have hu102 := Try.underlying102; have hu104 := Try.underlying104; have HR0 := ak hr0; have HC0 := ak hc0; clear hr0 hc0; have HB := ak (Below.refl w.heap.size w); have H : (if 0 ≤ (l0.length : Int) then (if ((l0.length : Int) : Int).toNat ≤ 3909374676536 then (laws_toJobS.l0 k l0 (List.replicate ((l0.length : Int) : Int).toNat z104) 0) else (none)) else (none)) = some r := h; clear h
 by_cases c2 : 0 ≤ (l0.length : Int); rotate_left
 · rw [if_neg c2] at H; exact absurd H (by simp)
 rw [if_pos c2] at H; have c2b0 := eq_true c2; have c2b1 : decide (0 ≤ (l0.length : Int)) = true := decide_eq_true c2; clear c2
 by_cases c3 : ((l0.length : Int) : Int).toNat ≤ 3909374676536; rotate_left
 · rw [if_neg c3] at H; exact absurd H (by simp)
 rw [if_pos c3] at H; have c3b0 := eq_true c3; have c3b1 : decide (((l0.length : Int) : Int).toNat ≤ 3909374676536) = true := decide_eq_true c3; clear c3; obtain ⟨y249, hyq⟩ : ∃ y_ : List (S104), y_ = (List.replicate ((l0.length : Int) : Int).toNat z104) := ⟨_, rfl⟩; replace H : (laws_toJobS.l0 k l0 y249 0) = some r := by first | (rw [hyq]; with_reducible exact H) | (have H2_ := (Option.bind_some _ _).symm.trans H; rw [hyq]; with_reducible exact H2_) | (have H2_ := (Option.bind_some _ _).symm.trans H; with_reducible exact H2_) | with_reducible exact H | (rw [hyq]; exact H) | exact H
 have Ny249 := ak hyq; clear hyq; have H' := ak H; clear H; go_enter Try.func23, Try.ntmps23
 go_wp2_with (first | ((with_reducible refine gate_dst (N := 7) rfl ?_); refine Kd.S_make k104a _ 104 rfl (N := 7) rfl 45 _ _ rfl (l0.length : Int) rfl rfl Try.underlying45 (.agg #[(.int .i64 0), (.int .i64 0), (.slice none 0 0), (.slice none 0 0), (.int .i64 0)]) 72 info104 rfl (by decide) (by omega) z104 (ok := fun _ => True) (okp := fun _ => True) (k104a_mkM _ _ _ z104 (Kd.R_nil _ _ _ _ _) (Kd.R_nil _ _ _ _ _)) (fun _ hk => hk) trivial (odA) (Nat.le_trans (Nat.mul_le_mul_right _ (odA : (l0.length : Int).toNat ≤ 3909374676536)) (by omega)) (Below.refl _ _) (Nat.le_refl _) ?_; intro v250 w4 ho5 hb hg_ hnew_; clear hg_ hnew_; (first | rw [← Ny249.out] at ho5 | (simp only [Int.reduceToNat] at ho5; rw [← Ny249.out] at ho5)); have HO251 := sL ho5; replace HB := bS hb; clear hb ho5))
 go_loopg [4] k (fun kq v4 w' => ∃ (x3_1 : List (S104)) (x4_1 : Int), v4 = .int .i64 x4_1 ∧ Aside0 (laws_toJobS.l0 kq l0 x3_1 x4_1 = some r) ∧ Aside0 (kq ≤ k) ∧ Aside0 (Kd.S k104a 104 w' w.heap.size (fun _ => True) v250 x3_1) ∧ Aside0 (Below w.heap.size w w'))
 case atStart => exact ⟨(y249), (0), eqA, H', ⟨Nat.le_refl _⟩, ⟨sA HO251⟩, ⟨belA⟩⟩
 case round =>
  clear H'; obtain ⟨x3_1, x4_1, rfl, HA, HK1, HO_3, HB⟩ := hrel
  cases gk with
  | zero => exact absurd HA.out (by simp [laws_toJobS.l0])
  | succ k1 =>
   have H := HA.out; clear HA; simp only [laws_toJobS.l0] at H
   by_cases c6 : x4_1 < (l0.length : Int); rotate_left
   · rw [if_neg c6] at H; have c6b0 := decide_eq_false c6; clear c6; obtain rfl := Option.some.inj H; go_wp2
     go_ret
     exact ⟨_, xq1, by (with_reducible repeat (first | apply Kd.S_alloc | apply Kd.S_drewN | apply Kd.S_drew)); exact HO_3.out, belA⟩
   rw [if_pos c6] at H; have c6b0 := decide_eq_true c6; clear c6
   by_cases c7 : 0 ≤ x4_1; rotate_left
   · rw [if_neg c7] at H; exact absurd H (by simp)
   rw [if_pos c7] at H; have c7b0 := decide_eq_true c7; clear c7; replace H := Option.bind_eq_some_iff.mp H; obtain ⟨⟨t253, t254, t255, t258, t261⟩, A80, H⟩ := H; (try dsimp only at H); have A8 := ak A80; clear A80
   by_cases c9 : x4_1 < (x3_1.length : Int); rotate_left
   · rw [if_neg c9] at H; exact absurd H (by simp)
   rw [if_pos c9] at H; have c9b0 := decide_eq_true c9; clear c9; obtain ⟨y262, hyq⟩ : ∃ y_ : List (S104), y_ = (x3_1.set (x4_1 : Int).toNat (⟨t253, t254, t255, t258, t261⟩ : S104)) := ⟨_, rfl⟩; replace H : (laws_toJobS.l0 k1 l0 y262 (wrap64 (x4_1 + 1))) = some r := by first | (rw [hyq]; with_reducible exact H) | (have H2_ := (Option.bind_some _ _).symm.trans H; rw [hyq]; with_reducible exact H2_) | (have H2_ := (Option.bind_some _ _).symm.trans H; with_reducible exact H2_) | with_reducible exact H | (rw [hyq]; exact H) | exact H
   have Ny262 := ak hyq; clear hyq; have H' := ak H; clear H; have p252 : 0 ≤ (x4_1 : Int) := odA; have q252 : x4_1 < (l0.length : Int) := odA; obtain ⟨ad252, A252_2, c252_2, A252_3, c252_3, e252, hx252_0, hx252_1, hx252_2, hx252_3, hx252_4, hl252_2, hi252_2, hl252_3, hi252_3⟩ := at_T102 HR0.out x4_1 p252 q252
   cases e252
   try replace hx252_0 := cB HB hx252_0
   try replace hx252_1 := cB HB hx252_1
   try replace hx252_2 := cB HB hx252_2
   try replace hx252_3 := cB HB hx252_3
   try replace hx252_4 := cB HB hx252_4
   have HR252_2 := ak hi252_2; have HC252_2 := ak hl252_2; clear hi252_2 hl252_2; have HR252_3 := ak hi252_3; have HC252_3 := ak hl252_3; clear hi252_3 hl252_3; replace p252 := eq_true p252; replace q252 := eq_true q252; go_wp2_with (first | ((with_reducible refine gate_callee (f := 78) rfl ?_); refine goB 20 Try.func78 #[.agg #[.int .i64 ((rd_T102 l0 x4_1).f0), .int .i64 ((rd_T102 l0 x4_1).f1), .slice A252_2 ((rd_T102 l0 x4_1).f2).length c252_2, .slice A252_3 ((rd_T102 l0 x4_1).f3).length c252_3, .int .i64 ((rd_T102 l0 x4_1).f4)]] rfl ?_; (with_reducible refine (laws_toJob.calls k1 ((rd_T102 l0 x4_1).f0) ((rd_T102 l0 x4_1).f1) _ _ ((rd_T102 l0 x4_1).f2) _ _ ((rd_T102 l0 x4_1).f3) ((rd_T102 l0 x4_1).f4) t253 t254 t255 t258 t261 _ ?side1 ?side2 ?side3 ?side4 A8.out).mono ?_); (case side1 => exact cA (Kd.C_below HR252_2.out HB.out)); (case side2 => exact HC252_2.out); (case side3 => exact cA (Kd.C_below HR252_3.out HB.out)); (case side4 => exact HC252_3.out); rintro e w11 ⟨v256, v259, rfl, ho0, ho1, hb⟩; refine ⟨_, rfl, ?_⟩; have HO257 := rL ho0; have HO260 := rL ho1; replace HO_3 := ak (Kd.S_mono (Kd.S_told (Kd.S_told (Kd.S_old (sA HO_3) hb) (Kd.R_base ho0)) (Kd.R_base ho1)) (fun _ h_ => h_.1)); replace HB := bS hb; (try clear hb ho0 ho1); have p10 : 0 ≤ (x4_1 : Int) := odA; have q10 : (x4_1 : Int) < ((x3_1.length : Int) : Int) := odA; obtain ⟨go10, co10, eo10, gb10, gl10, cl10, HG10⟩ := Kd.S_form HO_3.out (by omega); (first | cases eo10 | (injection eo10 with ea_ en_ ec_; (first | subst ea_ | (injection ea_ with ea_; subst ea_)); subst ec_; clear en_)); have GB10 := ak gb10; have GG10 := ak HG10; clear gb10 gl10 HG10; obtain ⟨_, ce10, hcl10, hM10, hcc10, hfr10, _, _⟩ := Kd.S_elem HO_3.out z104 (x4_1 : Int) p10 q10; obtain ⟨ve10_2, ve10_3, rfl, ge10_2, ge10_3⟩ := k104a_openM hM10; have hx10_0 : w11.cell? ⟨go10, (x4_1 : Int).toNat * 5, none⟩ = some (.int .i64 ((rd_T104 x3_1 x4_1).f0)) := hcc10 0 _ rfl; have hx10_1 : w11.cell? ⟨go10, (x4_1 : Int).toNat * 5 + 1, none⟩ = some (.int .i64 ((rd_T104 x3_1 x4_1).f1)) := hcc10 1 _ rfl; have hx10_2 : w11.cell? ⟨go10, (x4_1 : Int).toNat * 5 + 2, none⟩ = some (ve10_2) := hcc10 2 _ rfl; have hx10_3 : w11.cell? ⟨go10, (x4_1 : Int).toNat * 5 + 3, none⟩ = some (ve10_3) := hcc10 3 _ rfl; have hx10_4 : w11.cell? ⟨go10, (x4_1 : Int).toNat * 5 + 4, none⟩ = some (.int .i64 ((rd_T104 x3_1 x4_1).f4)) := hcc10 4 _ rfl; have hf10_0 : w11.frozen? ⟨go10, (x4_1 : Int).toNat * 5, none⟩ = false := hfr10 0; have hf10_1 : w11.frozen? ⟨go10, (x4_1 : Int).toNat * 5 + 1, none⟩ = false := hfr10 1; have hf10_2 : w11.frozen? ⟨go10, (x4_1 : Int).toNat * 5 + 2, none⟩ = false := hfr10 2; have hf10_3 : w11.frozen? ⟨go10, (x4_1 : Int).toNat * 5 + 3, none⟩ = false := hfr10 3; have hf10_4 : w11.frozen? ⟨go10, (x4_1 : Int).toNat * 5 + 4, none⟩ = false := hfr10 4; clear hcl10 hcc10 hfr10; (try clear hM10); replace p10 := eq_true p10; replace q10 := eq_true q10; have n_ := ak (Kd.S_mono (ok' := (fun k_ => some k_ ≠ (v256 : Value).ownBlock ∧ some k_ ≠ (v259 : Value).ownBlock)) HO_3.out (fun k_ hk => ⟨hk.1.2, hk.2⟩)); clear HO_3; have HO_3 := n_; clear n_; have HX12 := ak (show Kd.S k104a 104 w11 w.heap.size (fun k_ => ((fun _ => True)) k_ ∧ ¬ ((fun k_ => some k_ = (v256 : Value).ownBlock ∨ some k_ = (v259 : Value).ownBlock)) k_) (.slice (some ⟨go10, 0, none⟩) x3_1.length co10) x3_1 from (sE (Kd.S_mono HO_3.out (fun k_ hk => ⟨trivial, fun e_ => e_.elim (fun h_ => hk.1 h_) (fun h_ => hk.2 h_)⟩)))); obtain ⟨oki12, ce12, hcl12, hM12, hcc12, hfr12, hoki12, hH12⟩ := Kd.S_elem HX12.out z104 (x4_1 : Int) (odA) xq40; obtain ⟨ve12_2, ve12_3, rfl, ge12_2, ge12_3⟩ := k104a_openM hM12; have HP12 := Kd.S_seg hH12 (odA) xq40 (seg := [.int .i64 t253, .int .i64 t254, v256, v259, .int .i64 t261]) (j := 0) (show 5 ≤ 5 from by decide) (x' := (⟨t253, t254, t255, t258, t261⟩ : S104)) (k104a_mkM _ _ _ (⟨t253, t254, t255, t258, t261⟩ : S104) (Kd.R_mono (Kd.R_tight rfl (Kd.R_mono (ok' := fun k_ => ((fun _ => True)) k_ ∧ k_ ≠ go10) (Kd.R_apart' (HO257.out) (Kd.S_typed HO_3.out) (by decide)) (fun k_ hk => ⟨trivial, fun e_ => (hk.2) (by rw [e_]; rfl)⟩))) (fun _ h_ => Or.inr (Or.inl h_))) (Kd.R_mono (Kd.R_tight rfl (Kd.R_mono (ok' := fun k_ => ((fun _ => True)) k_ ∧ k_ ≠ go10) (Kd.R_apart' (HO260.out) (Kd.S_typed HO_3.out) (by decide)) (fun k_ hk => ⟨trivial, fun e_ => (hk.2) (by rw [e_]; rfl)⟩))) (fun k_ h_ => ⟨Or.inr (Or.inr (h_)), HO260.out.1 k_ h_.symm⟩))) (fun _ hk => hk) (fun k_ hk_ => hk_.elim (fun h_ => ((Kd.R_mono (ok' := fun k_ => ((fun _ => True)) k_ ∧ k_ ≠ go10) (Kd.R_apart' (HO257.out) (Kd.S_typed HO_3.out) (by decide)) (fun k_ hk => ⟨trivial, fun e_ => (hk.2) (by rw [e_]; rfl)⟩))).1 k_ h_.symm) (fun h_ => ((Kd.R_mono (ok' := fun k_ => ((fun _ => True)) k_ ∧ k_ ≠ go10) (Kd.R_apart' (HO260.out) (Kd.S_typed HO_3.out) (by decide)) (fun k_ hk => ⟨trivial, fun e_ => (hk.2) (by rw [e_]; rfl)⟩))).1 k_ h_.symm)); have hx12_0 := hcc12 0 _ rfl; (try simp only [show (k104a).sz = 5 from rfl, Nat.mul_one, Nat.add_zero] at hx12_0); have hf12_0 := hfr12 0; (try simp only [show (k104a).sz = 5 from rfl, Nat.mul_one, Nat.add_zero] at hf12_0); have hx12_1 := hcc12 1 _ rfl; (try simp only [show (k104a).sz = 5 from rfl, Nat.mul_one, Nat.add_zero] at hx12_1); have hf12_1 := hfr12 1; (try simp only [show (k104a).sz = 5 from rfl, Nat.mul_one, Nat.add_zero] at hf12_1); have hx12_2 := hcc12 2 _ rfl; (try simp only [show (k104a).sz = 5 from rfl, Nat.mul_one, Nat.add_zero] at hx12_2); have hf12_2 := hfr12 2; (try simp only [show (k104a).sz = 5 from rfl, Nat.mul_one, Nat.add_zero] at hf12_2); have hx12_3 := hcc12 3 _ rfl; (try simp only [show (k104a).sz = 5 from rfl, Nat.mul_one, Nat.add_zero] at hx12_3); have hf12_3 := hfr12 3; (try simp only [show (k104a).sz = 5 from rfl, Nat.mul_one, Nat.add_zero] at hf12_3); have hx12_4 := hcc12 4 _ rfl; (try simp only [show (k104a).sz = 5 from rfl, Nat.mul_one, Nat.add_zero] at hx12_4); have hf12_4 := hfr12 4; (try simp only [show (k104a).sz = 5 from rfl, Nat.mul_one, Nat.add_zero] at hf12_4); clear hcl12 hcc12 hfr12 hM12 hoki12 hH12) | ((with_reducible refine gate_store (t := 104) (p := 21) rfl ?_); refine store_event (t := 104) (p := 21) (v := ?vo_w13) (w1 := (((((w11.setCell ⟨go10, (x4_1 : Int).toNat * 5, none⟩ (.int .i64 t253)).setCell ⟨go10, (x4_1 : Int).toNat * 5 + 1, none⟩ (.int .i64 t254)).setCell ⟨go10, (x4_1 : Int).toNat * 5 + 2, none⟩ (v256)).setCell ⟨go10, (x4_1 : Int).toNat * 5 + 3, none⟩ (v259)).setCell ⟨go10, (x4_1 : Int).toNat * 5 + 4, none⟩ (.int .i64 t261))) ?hg ?ho ?hn ?hr ?_; (case ho => rfl); (case hg => rfl); (case hn => rfl); (case hr => (try (obtain ⟨Aq_, cq_, eq_⟩ := Kd.R_slice (v := v256) (Aside0.out (by assumption)); subst eq_)); (try (obtain ⟨Aq_, cq_, eq_⟩ := Kd.R_slice (v := v259) (Aside0.out (by assumption)); subst eq_)); first | (go_simp; done) | (go_simp; rfl)); intro w13 hw; have hg : w11.grownBy w13 (some go10) := (by rw [hw]; exact HP12.2); have hp_ : Kd.S k104a 104 w13 w.heap.size (fun _ => True) (.slice (some ⟨go10, 0, none⟩) x3_1.length co10) y262 := (by rw [hw, Ny262.out]; exact HP12.1); clear HP12; replace HO_3 := ak hp_; replace HB := ak ((by rw [hw]; exact below_set (below_set (below_set (below_set (below_set (HB.out) GB10.out) GB10.out) GB10.out) GB10.out) GB10.out : Below w.heap.size w w13)); clear HO257 HO260; clear hg hw hp_))
   go_roundg k1
   case measure => have := HK1.out; omega
   case rel => exact ⟨(y262), (wrap64 (x4_1 + 1)), eqA, H', ⟨xq6⟩, ⟨sA HO_3⟩, ⟨belA⟩⟩

theorem laws_toJobS.calls (k : Nat) (A0 : Option Addr) (c0 : Nat) (l0 : List (S102)) (r : List (S104)) (w : World) (hr0 : Kd.C k102 w A0 l0.length l0) (hc0 : l0.length ≤ c0) (h : laws_toJobS.f k l0 = some r) :
 Calls Try.prog 23 #[.slice A0 l0.length c0] w fun e w' => ∃ v0_ : Value, e = .returned (v0_) ∧ Kd.S k104 104 w' w.heap.size (fun _ => True) v0_ r ∧ Below w.heap.size w w' :=
 (laws_toJobS.calls0 k A0 c0 l0 r w hr0 hc0 h).mono (by rintro e w' ⟨v0_, rfl, ho, hb⟩; exact ⟨v0_, rfl, k104a_S ho, hb⟩)
def impl_fieldOf.f (a0 : Int) : Option (Int × Int × Int × Bool) := Go.Proofs.Ytbojabmpcfclhaa.Fld.impl_fieldOf.f a0
theorem impl_fieldOf.calls (a0 : Int) (r1 : Int) (r2 : Int) (r3 : Int) (r4 : Bool) (w : World) (h : impl_fieldOf.f a0 = some (r1, r2, r3, r4)) :
 Calls Try.prog 84 #[.int .i64 a0] w fun e w' => e = .returned (.tuple #[.agg #[.int .i64 r1, .int .i64 r2, .int .i64 r3], .bool r4]) ∧ Below w.heap.size w w' :=
 Go.Proofs.Ytbojabmpcfclhaa.Fld.impl_fieldOf.calls a0 r1 r2 r3 r4 w h

def impl_areWords.l0 : Nat → List Int → List Int → Int → Int → Option (Bool)
 | 0, _, _, _, _ => none
 | k + 1, x0, x5, x6, x7 => if x7 < x6 then (if 0 ≤ x7 then (if x7 < (x5.length : Int) then (if (rd x5 x7) < (-1099511627776) then (some false) else (if (rd x5 x7) > 1099511627776 then (some false) else (impl_areWords.l0 k x0 x5 x6 (wrap64 (x7 + 1))))) else (none)) else (none)) else (some (decide ((x0.length : Int) ≤ 400)))
def impl_areWords.f (k : Nat) (l0 : List Int) : Option (Bool) := impl_areWords.l0 k l0 l0 (l0.length : Int) 0
theorem impl_areWords.mono_l : ∀ k, (∀ y0 y1 y2 y3, LeO (impl_areWords.l0 k y0 y1 y2 y3) (impl_areWords.l0 (k + 1) y0 y1 y2 y3))
 | 0 => fun _ _ _ _ r h => by simp [impl_areWords.l0] at h
 | k + 1 => by
  have ih0 := impl_areWords.mono_l k
  · intro y0 y1 y2 y3; unfold impl_areWords.l0; exact xq15
theorem impl_areWords.mono : ∀ a0 k, LeO (impl_areWords.f k a0) (impl_areWords.f (k + 1) a0) := by
 intro a0 k; have ih0 := impl_areWords.mono_l k
 unfold impl_areWords.f
 exact xq15
theorem impl_areWords.calls (k : Nat) (A0 : Option Addr) (c0 : Nat) (l0 : List Int) (r : Bool) (w : World) (hr0 : Kd.C (Kd.int .i64) w A0 l0.length l0) (hc0 : l0.length ≤ c0) (h : impl_areWords.f k l0 = some r) :
 Calls Try.prog 135 #[.slice A0 l0.length c0] w fun e w' => e = .returned (.bool r) ∧ Drawn0 w w' := by
 have HR0 := ak hr0; have HC0 := ak hc0; clear hr0 hc0; have H : (impl_areWords.l0 k l0 l0 (l0.length : Int) 0) = some r := h; clear h; have H' := ak H; clear H; go_enter Try.func135, Try.ntmps135
 go_wp2
 go_loopg [7] k (fun kq v7 w' => ∃ (x7_1 : Int), v7 = .int .i64 x7_1 ∧ Aside0 (impl_areWords.l0 kq l0 l0 (l0.length : Int) x7_1 = some r) ∧ Aside0 (kq ≤ k) ∧ Drawn0 w w')
 case atStart => exact ⟨(0), eqA, H', ⟨Nat.le_refl _⟩, xq2⟩
 case round =>
  clear H'; obtain ⟨x7_1, rfl, HA, HK1, ⟨m1, rfl⟩⟩ := hrel
  cases gk with
  | zero => exact absurd HA.out (by simp [impl_areWords.l0])
  | succ k1 =>
   have H := HA.out; clear HA; simp only [impl_areWords.l0] at H
   by_cases c2 : x7_1 < (l0.length : Int); rotate_left
   · rw [if_neg c2] at H; have c2b0 := decide_eq_false c2; clear c2; obtain rfl := Option.some.inj H; go_wp2
     go_ret
     exact ⟨xq3, xq2⟩
   rw [if_pos c2] at H; have c2b0 := decide_eq_true c2; clear c2
   by_cases c3 : 0 ≤ x7_1; rotate_left
   · rw [if_neg c3] at H; exact absurd H (by simp)
   rw [if_pos c3] at H; have c3b0 := decide_eq_true c3; clear c3
   by_cases c4 : x7_1 < (l0.length : Int); rotate_left
   · rw [if_neg c4] at H; exact absurd H (by simp)
   rw [if_pos c4] at H; have c4b0 := decide_eq_true c4; clear c4
   by_cases c5 : (rd l0 x7_1) < (-1099511627776)
   · rw [if_pos c5] at H; have c5b0 := decide_eq_true c5; clear c5; obtain rfl := Option.some.inj H; have p263 : 0 ≤ (x7_1 : Int) := odA; have q263 : x7_1 < (l0.length : Int) := odA; obtain ⟨ad263, e263, hx263_0⟩ := Kd.at_int HR0.out x7_1 p263 q263
     cases e263
     replace p263 := eq_true p263; replace q263 := eq_true q263; go_wp2
     go_ret
     exact ⟨xq3, xq2⟩
   rw [if_neg c5] at H; have c5b0 := decide_eq_false c5; clear c5
   by_cases c6 : (rd l0 x7_1) > 1099511627776
   · rw [if_pos c6] at H; have c6b0 : decide (1099511627776 < (rd l0 x7_1)) = true := decide_eq_true c6; clear c6; obtain rfl := Option.some.inj H; have p263 : 0 ≤ (x7_1 : Int) := odA; have q263 : x7_1 < (l0.length : Int) := odA; obtain ⟨ad263, e263, hx263_0⟩ := Kd.at_int HR0.out x7_1 p263 q263
     cases e263
     replace p263 := eq_true p263; replace q263 := eq_true q263; go_wp2
     go_ret
     exact ⟨xq3, xq2⟩
   rw [if_neg c6] at H; have c6b0 : decide (1099511627776 < (rd l0 x7_1)) = false := decide_eq_false c6; clear c6; have H' := ak H; clear H; have p263 : 0 ≤ (x7_1 : Int) := odA; have q263 : x7_1 < (l0.length : Int) := odA; obtain ⟨ad263, e263, hx263_0⟩ := Kd.at_int HR0.out x7_1 p263 q263
   cases e263
   replace p263 := eq_true p263; replace q263 := eq_true q263; go_wp2
   go_roundg k1
   case measure => have := HK1.out; omega
   case rel => exact ⟨(wrap64 (x7_1 + 1)), eqA, H', ⟨xq6⟩, xq2⟩

def impl_usesB.f (a0 : Int) : Option (Bool) := if a0 = 1 then (some false) else (if a0 = 2 then (some false) else (some (a0 != 7)))
theorem impl_usesB.calls (a0 : Int) (r : Bool) (w : World) (h : impl_usesB.f a0 = some r) :
 Calls Try.prog 136 #[.int .i64 a0] w fun e w' => e = .returned (.bool r) ∧ Drawn0 w w' := by
 have H : (if a0 = 1 then (some false) else (if a0 = 2 then (some false) else (some (a0 != 7)))) = some r := h; clear h
 by_cases c2 : a0 = 1
 · rw [if_pos c2] at H; have c2b0 : (a0 == 1) = true := beq_iff_eq.mpr c2; have c2b1 : (a0 != 1) = false := bne_eq_false_iff_eq.mpr c2; clear c2; obtain rfl := Option.some.inj H; go_enter Try.func136, Try.ntmps136
   go_wp2
   go_ret
   exact ⟨xq3, xq2⟩
 rw [if_neg c2] at H; have c2b0 : (a0 == 1) = false := beq_eq_false_iff_ne.mpr c2; have c2b1 : (a0 != 1) = true := bne_iff_ne.mpr c2
 by_cases c3 : a0 = 2; rotate_left
 · rw [if_neg c3] at H; have c3b0 : (a0 == 2) = false := beq_eq_false_iff_ne.mpr c3; have c3b1 : (a0 != 2) = true := bne_iff_ne.mpr c3; obtain rfl := Option.some.inj H; go_enter Try.func136, Try.ntmps136
   go_wp2
   go_ret
   exact ⟨xq3, xq2⟩
 rw [if_pos c3] at H; have c3b0 : (a0 == 2) = true := beq_iff_eq.mpr c3; have c3b1 : (a0 != 2) = false := bne_eq_false_iff_eq.mpr c3; clear c3; obtain rfl := Option.some.inj H; go_enter Try.func136, Try.ntmps136
 go_wp2
 go_ret
 exact ⟨xq3, xq2⟩

end Go.Proofs.Ytbojabmpcfclhaa.PFnExactPackJobs

-- Written by a program of this session (the print of the kit with contracts of this session's own added)
import Derived.Test.YtbojabmpcfclhaaZFPAx1
import Derived.Test.YtbojabmpcfclhaaZFPAx10
import Derived.Test.YtbojabmpcfclhaaZFPAV
import Derived.Test.YtbojabmpcfclhaaZFPAx2
namespace Go.Proofs.Ytbojabmpcfclhaa.PFnPlanAny
open Go.RowKit Go.Proofs.YtbojabmpcfclhaaW.PrintWords Go.Proofs.YtbojabmpcfclhaaW.PrintLast Go.Proofs.YtbojabmpcfclhaaW.PrintMore Go.Proofs.YtbojabmpcfclhaaW.PrintPack
attribute [local go_sem] max2_int min2_int max_two min_two max_three min_three max_four min_four   -- for this text's walks alone
set_option linter.unusedVariables false
set_option linter.unusedSimpArgs false

/-! ### impl_field_runStep: function 71 -/
def impl_field_runStep.l0 : Nat → List Int → List Int → Int → Int → Int → Int → Int → Int → Int → Int → Int → Option (List Int)
 | 0, _, _, _, _, _, _, _, _, _, _, _ => none
 | k + 1, x1, x7, x8, x9, x10, x366000, x366001, x366002, x367000, x367001, x367002 => if x10 < x367002 then (if x8 = 0 then (none) else (if 0 ≤ (wrap64 ((wrap64 ((wrap64 ((wrap64 (Int.tdiv x10 x8)) * 2)) * x8)) + (Int.tmod x10 x8))) then (if (wrap64 ((wrap64 ((wrap64 ((wrap64 (Int.tdiv x10 x8)) * 2)) * x8)) + (Int.tmod x10 x8))) < (x1.length : Int) then (if 0 ≤ (wrap64 ((wrap64 ((wrap64 ((wrap64 ((wrap64 (Int.tdiv x10 x8)) * 2)) * x8)) + (Int.tmod x10 x8))) + x8)) then (if (wrap64 ((wrap64 ((wrap64 ((wrap64 ((wrap64 (Int.tdiv x10 x8)) * 2)) * x8)) + (Int.tmod x10 x8))) + x8)) < (x1.length : Int) then ((impl_field_power.f k x366000 x366001 x366002 x9 (Int.tmod x10 x8)).bind fun t376 => ((impl_field_mul.f x366000 x366001 x366002 (rd x1 (wrap64 ((wrap64 ((wrap64 ((wrap64 ((wrap64 (Int.tdiv x10 x8)) * 2)) * x8)) + (Int.tmod x10 x8))) + x8))) t376).bind fun t377 => ((impl_field_add.f x366000 x366001 x366002 (rd x1 (wrap64 ((wrap64 ((wrap64 ((wrap64 (Int.tdiv x10 x8)) * 2)) * x8)) + (Int.tmod x10 x8)))) t377).bind fun t378 => (if (wrap64 ((wrap64 ((wrap64 ((wrap64 (Int.tdiv x10 x8)) * 2)) * x8)) + (Int.tmod x10 x8))) < (x7.length : Int) then ((impl_field_sub.f x366000 x366001 x366002 (rd x1 (wrap64 ((wrap64 ((wrap64 ((wrap64 (Int.tdiv x10 x8)) * 2)) * x8)) + (Int.tmod x10 x8)))) t377).bind fun t380 => (if (wrap64 ((wrap64 ((wrap64 ((wrap64 ((wrap64 (Int.tdiv x10 x8)) * 2)) * x8)) + (Int.tmod x10 x8))) + x8)) < (x7.length : Int) then (impl_field_runStep.l0 k x1 ((x7.set ((wrap64 ((wrap64 ((wrap64 ((wrap64 (Int.tdiv x10 x8)) * 2)) * x8)) + (Int.tmod x10 x8))) : Int).toNat t378).set ((wrap64 ((wrap64 ((wrap64 ((wrap64 ((wrap64 (Int.tdiv x10 x8)) * 2)) * x8)) + (Int.tmod x10 x8))) + x8)) : Int).toNat t380) x8 x9 (wrap64 (x10 + 1)) x366000 x366001 x366002 x367000 x367001 x367002) else (none))) else (none))))) else (none)) else (none)) else (none)) else (none))) else (some x7)
def impl_field_runStep.f (k : Nat) (a0_0 : Int) (a0_1 : Int) (a0_2 : Int) (l1 : List Int) (a2_0 : Int) (a2_1 : Int) (a2_2 : Int) : Option (List Int) := (some (([] : List Int) : List Int)).bind fun y367 => (if y367.length + l1.length < 17592186044416 then (if 0 ≤ a2_0 then ((impl_field_root.f k a0_0 a0_1 a0_2 (wrap64 (a2_0 + 1))).bind fun t373 => (impl_field_runStep.l0 k l1 (y367 ++ l1) (shl .i64 1 a2_0) t373 a2_1 a0_0 a0_1 a0_2 a2_0 a2_1 a2_2)) else (none)) else (none))
theorem impl_field_runStep.mono_l : ∀ k, (∀ y0 y1 y2 y3 y4 y5 y6 y7 y8 y9 y10, LeO (impl_field_runStep.l0 k y0 y1 y2 y3 y4 y5 y6 y7 y8 y9 y10) (impl_field_runStep.l0 (k + 1) y0 y1 y2 y3 y4 y5 y6 y7 y8 y9 y10))
 | 0 => fun _ _ _ _ _ _ _ _ _ _ _ r h => by simp [impl_field_runStep.l0] at h
 | k + 1 => by
  have ih0 := impl_field_runStep.mono_l k
  · intro y0 y1 y2 y3 y4 y5 y6 y7 y8 y9 y10
    unfold impl_field_runStep.l0
    repeat' first
    | (with_reducible exact ih0 _ _ _ _ _ _ _ _ _ _ _)
    | (with_reducible exact impl_field_power.mono _ _ _ _ _ _)
    | (with_reducible exact impl_field_root.mono _ _ _ _ _)
    | (with_reducible exact LeO.refl _)
    | (with_reducible exact LeO.none _)
    | (with_reducible refine LeO.ite ?_ ?_)
    | (with_reducible refine LeO.bind ?_ (fun _ => ?_))
    | exact ih0 _ _ _ _ _ _ _ _ _ _ _
    | exact impl_field_power.mono _ _ _ _ _ _
    | exact impl_field_root.mono _ _ _ _ _
    | exact LeO.none _
    | refine LeO.ite ?_ ?_
    | refine LeO.bind ?_ (fun _ => ?_)
theorem impl_field_runStep.mono : ∀ a0 a1 a2 a3 a4 a5 a6 k, LeO (impl_field_runStep.f k a0 a1 a2 a3 a4 a5 a6) (impl_field_runStep.f (k + 1) a0 a1 a2 a3 a4 a5 a6) := by
 intro a0 a1 a2 a3 a4 a5 a6 k; have ih0 := impl_field_runStep.mono_l k
 unfold impl_field_runStep.f
 repeat' first
  | (with_reducible exact ih0 _ _ _ _ _ _ _ _ _ _ _)
  | (with_reducible exact impl_field_power.mono _ _ _ _ _ _)
  | (with_reducible exact impl_field_root.mono _ _ _ _ _)
  | (with_reducible exact LeO.refl _)
  | (with_reducible exact LeO.none _)
  | (with_reducible refine LeO.ite ?_ ?_)
  | (with_reducible refine LeO.bind ?_ (fun _ => ?_))
  | exact ih0 _ _ _ _ _ _ _ _ _ _ _
  | exact impl_field_power.mono _ _ _ _ _ _
  | exact impl_field_root.mono _ _ _ _ _
  | exact LeO.none _
  | refine LeO.ite ?_ ?_
  | refine LeO.bind ?_ (fun _ => ?_)
def impl_field_runStep.T7 : Bool × List (List Nat × List Nat) := (true, [([], []), ([], []), ([0, 1], [0, 1]), ([2], [2]), ([], []), ([3, 4], [3, 4]), ([], []), ([], []), ([6, 7], [6, 7]), ([5, 8], [5, 8]), ([9, 0, 1, 2, 3, 4, 5, 6, 7, 8, 9], [9])])
def impl_field_runStep.B7 : List Nat := [0, 0, 3, 7, 0, 31, 0, 0, 192, 511, 1023]
theorem impl_field_runStep.tab7 : rtab .any (opsOf Try.f71 7) = impl_field_runStep.T7 := by kernel_rfl
theorem impl_field_runStep.bits7 : waitsOk impl_field_runStep.T7.2 impl_field_runStep.B7 = true := by kernel_rfl
def impl_field_runStep.T8 : Bool × List (List Nat × List Nat) := (true, [([], []), ([], []), ([0, 1], [0, 1]), ([2], [2]), ([], []), ([], []), ([], []), ([], []), ([6, 7], [6, 7]), ([5, 8], [5, 8]), ([9], [9]), ([], []), ([], []), ([], []), ([], []), ([13, 14], [13, 14]), ([11, 12, 15], [11, 12, 15]), ([4, 10, 16, 16], [4, 10, 16]), ([3, 17, 0, 1, 2, 3], [3]), ([17, 18, 0, 1, 2, 3, 4, 5, 6, 7, 8, 9, 10, 11, 12, 13, 14, 15, 16, 17, 18], [17])])
def impl_field_runStep.B8 : List Nat := [0, 0, 3, 7, 0, 0, 0, 0, 192, 480, 992, 0, 0, 0, 0, 24576, 63488, 131056, 262143, 524287]
theorem impl_field_runStep.tab8 : rtab .any (opsOf Try.f71 8) = impl_field_runStep.T8 := by kernel_rfl
theorem impl_field_runStep.bits8 : waitsOk impl_field_runStep.T8.2 impl_field_runStep.B8 = true := by kernel_rfl
set_option maxHeartbeats 8000000 in
set_option maxRecDepth 100000 in
theorem impl_field_runStep.calls (k : Nat) (a0_0 : Int) (a0_1 : Int) (a0_2 : Int) (A1 : Option Addr) (c1 : Nat) (l1 : List Int) (a2_0 : Int) (a2_1 : Int) (a2_2 : Int) (r : List Int) (w : World) (hr1 : Kd.C (Kd.int .i64) w A1 l1.length l1) (hc1 : l1.length ≤ c1) (h : impl_field_runStep.f k a0_0 a0_1 a0_2 l1 a2_0 a2_1 a2_2 = some r) :
 Calls Try.prog 71 #[.agg #[.int .i64 a0_0, .int .i64 a0_1, .int .i64 a0_2], .slice A1 l1.length c1, .agg #[.int .i64 a2_0, .int .i64 a2_1, .int .i64 a2_2]] w fun e w' => ∃ v0_ : Value, e = .returned (v0_) ∧ Kd.R (Kd.int .i64) 3 w' w.heap.size (fun _ => True) v0_ r ∧ Below w.heap.size w w' := by
 have hu95 := Try.underlying95; have hu36 := Try.underlying36; have HR1 := Aside0.mk hr1; have HC1 := Aside0.mk hc1; clear hr1 hc1; have HB := Aside0.mk (Below.refl w.heap.size w); have H : ((some (([] : List Int) : List Int)).bind fun y367 => (if y367.length + l1.length < 17592186044416 then (if 0 ≤ a2_0 then ((impl_field_root.f k a0_0 a0_1 a0_2 (wrap64 (a2_0 + 1))).bind fun t373 => (impl_field_runStep.l0 k l1 (y367 ++ l1) (shl .i64 1 a2_0) t373 a2_1 a0_0 a0_1 a0_2 a2_0 a2_1 a2_2)) else (none)) else (none))) = some r := h; clear h; obtain ⟨y367, hy367⟩ : ∃ y_ : List Int, y_ = (([] : List Int)) := ⟨_, rfl⟩; replace H : (if y367.length + l1.length < 17592186044416 then (if 0 ≤ a2_0 then ((impl_field_root.f k a0_0 a0_1 a0_2 (wrap64 (a2_0 + 1))).bind fun t373 => (impl_field_runStep.l0 k l1 (y367 ++ l1) (shl .i64 1 a2_0) t373 a2_1 a0_0 a0_1 a0_2 a2_0 a2_1 a2_2)) else (none)) else (none)) = some r := by first | (rw [hy367]; with_reducible exact H) | (have H2_ := (Option.bind_some _ _).symm.trans H; rw [hy367]; with_reducible exact H2_) | (have H2_ := (Option.bind_some _ _).symm.trans H; with_reducible exact H2_) | with_reducible exact H | (rw [hy367]; exact H) | exact H
 have Ny367 := Aside0.mk hy367; clear hy367
 by_cases c4 : y367.length + l1.length < 17592186044416
 · rw [if_pos c4] at H; have LMc4 := Aside0.mk c4; clear c4; obtain ⟨y370, hy370⟩ : ∃ y_ : List Int, y_ = (y367 ++ l1) := ⟨_, rfl⟩; replace H : (if 0 ≤ a2_0 then ((impl_field_root.f k a0_0 a0_1 a0_2 (wrap64 (a2_0 + 1))).bind fun t373 => (impl_field_runStep.l0 k l1 y370 (shl .i64 1 a2_0) t373 a2_1 a0_0 a0_1 a0_2 a2_0 a2_1 a2_2)) else (none)) = some r := by first | (rw [hy370]; with_reducible exact H) | (have H2_ := (Option.bind_some _ _).symm.trans H; rw [hy370]; with_reducible exact H2_) | (have H2_ := (Option.bind_some _ _).symm.trans H; with_reducible exact H2_) | with_reducible exact H | (rw [hy370]; exact H) | exact H
   have Ny370 := Aside0.mk hy370; clear hy370
   by_cases c5 : 0 ≤ a2_0
   · rw [if_pos c5] at H; have c5b0 := eq_true c5; have c5b1 : decide (0 ≤ a2_0) = true := decide_eq_true c5; clear c5; obtain ⟨ji6, hji6⟩ : ∃ j_ : Int, (shl .i64 1 a2_0) = j_ := ⟨_, rfl⟩; replace H : ((impl_field_root.f k a0_0 a0_1 a0_2 (wrap64 (a2_0 + 1))).bind fun t373 => (impl_field_runStep.l0 k l1 y370 ji6 t373 a2_1 a0_0 a0_1 a0_2 a2_0 a2_1 a2_2)) = some r := by first | (rw [hji6] at H; exact H) | (simp only [hji6] at H ⊢; exact H)
     have hji6_ : (IntKind.i64.wrap (1 * 2 ^ min a2_0.toNat 64)) = ji6 := hji6; have hji6z : a2_0 ≤ 64 → (IntKind.i64.wrap (1 * 2 ^ a2_0.toNat)) = ji6 := shl_small hji6; have hji6u : (IntKind.i64.wrap (2 ^ min a2_0.toNat 64)) = ji6 := by have h_ := hji6_; rw [Int.one_mul] at h_; exact h_
     have hji6v : a2_0 ≤ 64 → (IntKind.i64.wrap (2 ^ a2_0.toNat)) = ji6 := fun hle_ => by have h_ := hji6z hle_; rw [Int.one_mul] at h_; exact h_
     have hji6y : (wrap64 (1 * 2 ^ min a2_0.toNat 64)) = ji6 := (i64_w _).symm.trans hji6_; have hji6x : a2_0 ≤ 64 → (wrap64 (1 * 2 ^ a2_0.toNat)) = ji6 := fun h_ => (i64_w _).symm.trans (hji6z h_)
     replace H := Option.bind_eq_some_iff.mp H; obtain ⟨t373, A70, H⟩ := H; replace H : (impl_field_runStep.l0 k l1 y370 ji6 t373 a2_1 a0_0 a0_1 a0_2 a2_0 a2_1 a2_2) = some r := H
     have A7 := Aside0.mk A70; clear A70; have H' := Aside0.mk H; clear H; go_enter Try.func71, Try.ntmps71
     go_wp2_with (first | ((with_reducible refine gate_dst (N := 3) rfl ?_); refine boxA 3 #[.int .i64 a0_0, .int .i64 a0_1, .int .i64 a0_2] 95 ?_; intro gb365 hg w8 hbox hb; have BK365 := Aside0.mk hbox; have GW365 := leA (w := w) hg; have GE365 := leA (w := w) hg; replace HB := bS hb; clear hb hbox hg) | ((with_reducible refine gate_dst (N := 5) rfl ?_); refine boxA 5 #[.int .i64 a2_0, .int .i64 a2_1, .int .i64 a2_2] 36 ?_; intro gb366 hg w9 hbox hb; have BK366 := Aside0.mk hbox; have GW366 := leA (w := w) hg; have GE366 := leA (w := w) hg; have NB365_366 := neL hg BK365; have NB366_365 := neG hg BK365; replace BK365 := bB BK365 hb; replace HB := bS hb; clear hb hbox hg) | ((with_reducible refine gate_dst (N := 14) rfl ?_); refine Kd.R_lit (Kd.int .i64) _ 3 ?hg (N := 14) ?hd (xs := ([] : List Int)) (inner := []) (ok := fun _ => True) (okp := fun _ => True) ?hr ?hp (fun _ hk => hk) trivial (Below.refl _ _) (Nat.le_refl _) (by simp) ?_; (case hd => rfl); (case hg => rfl); (case hr => exact xq10); (case hp => exact (Reps.none _ _)); intro v368 w10 ho11 hb hg_ hnew_; clear hg_ hnew_; (first | rw [← Ny367.out] at ho11 | (simp only [Int.reduceToNat] at ho11; rw [← Ny367.out] at ho11)); have HO369 := rL ho11; replace BK365 := bB BK365 hb; replace BK366 := bB BK366 hb; replace HB := bS hb; clear hb ho11) | ((with_reducible refine gate_builtin (b := .append) (xs := #[.tmp 14, .tmp 15]) rfl ?_); at_builtin; refine Kd.R_append_rows (Kd.int .i64) (w0 := w) w.heap.size rfl (.tmp 14) (.tmp 15) 27 3 (.int .i64 0) 8 rfl Try.underlying27 info3 rfl (by decide) (by omega) v368 y367 l1 _ _ _ (fun _ => True) (fun _ => False) rfl rfl ?aO ?aR (fun _ _ h => h) (fun _ h => h.elim) ?aF ?aB ?aS ?aL ?_; (case aR => repeat (first | exact (Kd.C_below HR1.out HB.out) | (with_reducible refine Kd.C_alloc ?_ _) | (with_reducible refine Kd.C_drewN ?_ _) | (with_reducible refine Kd.C_drew ?_))); (case aB => exact belA); (case aF => exact (fun _ _ => trivial)); (case aO => exact (rA HO369)); (case aS => exact (below_size belA)); (case aL => have := LMc4.out; omega); intro v371 w12 ho hb hg hat; rw [← Ny370.out] at ho; have n0_ := Aside0.mk (blk_grown (g := gb365) (o := .cells #[.int .i64 a0_0, .int .i64 a0_1, .int .i64 a0_2] 95 (0, 0)) blkA hg (Kd.R_ne HO369.out BK365.out (by decide))); have n1_ := Aside0.mk (blk_grown (g := gb366) (o := .cells #[.int .i64 a2_0, .int .i64 a2_1, .int .i64 a2_2] 36 (0, 0)) blkA hg (Kd.R_ne HO369.out BK366.out (by decide))); have n2_ := Aside0.mk hb; have n3_ := Aside0.mk ho; clear BK365; clear BK366; clear HB; clear HO369; have BK365 := n0_; have BK366 := n1_; have HB := n2_; have HO372 := n3_; clear n0_ n1_ n2_ n3_; clear ho hb hg hat; have hnb13 := NB366_365.out; have hnc13 := NB365_366.out; obtain ⟨hcz14_0, hcz14_1, hcz14_2, hfz14_0, hfz14_1, hfz14_2⟩ := cel3 BK366; obtain ⟨hcz15_0, hcz15_1, hcz15_2, hfz15_0, hfz15_1, hfz15_2⟩ := cel3 BK365) | ((with_reducible refine gate_callee (f := 122) rfl ?_); refine goesL_ (some 24) rfl rfl Try.func122 (by kernel_rfl) rfl #[.agg #[.int .i64 a0_0, .int .i64 a0_1, .int .i64 a0_2], .int .i64 (wrap64 (a2_0 + 1))] rfl xq1 ?_; (with_reducible refine (impl_field_root.calls k a0_0 a0_1 a0_2 (wrap64 (a2_0 + 1)) t373 _ A7.out).mono ?_); rintro e w16 ⟨rfl, hb⟩; refine ⟨_, rfl, ?_⟩; replace HO372 := rB HO372 hb; replace BK365 := bB BK365 hb; replace BK366 := bB BK366 hb; replace HB := bS hb; (try clear hb); (try clear hb2); (try clear hk); (try clear hi); obtain ⟨hcz17_0, hcz17_1, hcz17_2, hfz17_0, hfz17_1, hfz17_2⟩ := cel3 BK366))
     go_loopg [10] k (fun kq v10 w' => ∃ (x7_1 : List Int) (x10_1 : Int), v10 = .int .i64 x10_1 ∧ Aside0 (impl_field_runStep.l0 kq l1 x7_1 ji6 t373 x10_1 a0_0 a0_1 a0_2 a2_0 a2_1 a2_2 = some r) ∧ Aside0 (kq ≤ k) ∧ Aside0 (Kd.R (Kd.int .i64) 3 w' w.heap.size (fun _ => True) v371 x7_1) ∧ Aside0 (w'.heap[gb365]? = some (.cells #[.int .i64 a0_0, .int .i64 a0_1, .int .i64 a0_2] 95 (0, 0))) ∧ Aside0 (w'.heap[gb366]? = some (.cells #[.int .i64 a2_0, .int .i64 a2_1, .int .i64 a2_2] 36 (0, 0))) ∧ Aside0 (Below w.heap.size w w'))
     case atStart => exact ⟨(y370), (a2_1), eqA, H', ⟨Nat.le_refl _⟩, ⟨rA HO372⟩, ⟨blkA⟩, ⟨blkA⟩, ⟨belA⟩⟩
     case round =>
      clear H'; obtain ⟨x7_1, x10_1, rfl, HA, HK1, HO_7, BK365, BK366, HB⟩ := hrel
      cases gk with
      | zero => exact absurd HA.out (by simp [impl_field_runStep.l0])
      | succ k1 =>
       have H := HA.out; clear HA; simp only [impl_field_runStep.l0] at H
       by_cases c18 : x10_1 < a2_2
       · rw [if_pos c18] at H; have c18b0 := decide_eq_true c18; clear c18
         by_cases c19 : ji6 = 0
         · rw [if_pos c19] at H; exact absurd H (by simp)
         · rw [if_neg c19] at H; have c19b0 : (ji6 == 0) = false := beq_eq_false_iff_ne.mpr c19; have c19b1 : (ji6 != 0) = true := bne_iff_ne.mpr c19; obtain ⟨ji20, hji20⟩ : ∃ j_ : Int, (wrap64 ((wrap64 ((wrap64 ((wrap64 (Int.tdiv x10_1 ji6)) * 2)) * ji6)) + (Int.tmod x10_1 ji6))) = j_ := ⟨_, rfl⟩; replace H : (if 0 ≤ (ji20) then (if (ji20) < (l1.length : Int) then (if 0 ≤ (wrap64 ((ji20) + ji6)) then (if (wrap64 ((ji20) + ji6)) < (l1.length : Int) then ((impl_field_power.f k1 a0_0 a0_1 a0_2 t373 (Int.tmod x10_1 ji6)).bind fun t376 => ((impl_field_mul.f a0_0 a0_1 a0_2 (rd l1 (wrap64 ((ji20) + ji6))) t376).bind fun t377 => ((impl_field_add.f a0_0 a0_1 a0_2 (rd l1 (ji20)) t377).bind fun t378 => (if (ji20) < (x7_1.length : Int) then ((impl_field_sub.f a0_0 a0_1 a0_2 (rd l1 (ji20)) t377).bind fun t380 => (if (wrap64 ((ji20) + ji6)) < (x7_1.length : Int) then (impl_field_runStep.l0 k1 l1 ((x7_1.set ((ji20) : Int).toNat t378).set ((wrap64 ((ji20) + ji6)) : Int).toNat t380) ji6 t373 (wrap64 (x10_1 + 1)) a0_0 a0_1 a0_2 a2_0 a2_1 a2_2) else (none))) else (none))))) else (none)) else (none)) else (none)) else (none)) = some r := by first | (rw [hji20] at H; exact H) | (simp only [hji20] at H ⊢; exact H)
           have hji20w : (IntKind.i64.wrap ((wrap64 ((wrap64 ((wrap64 (Int.tdiv x10_1 ji6)) * 2)) * ji6)) + (Int.tmod x10_1 ji6))) = ji20 := (i64_w _).trans hji20
           by_cases c21 : 0 ≤ (ji20)
           · rw [if_pos c21] at H; have c21b0 := decide_eq_true c21; clear c21
             by_cases c22 : (ji20) < (l1.length : Int)
             · rw [if_pos c22] at H; have c22b0 := decide_eq_true c22; clear c22; obtain ⟨ji23, hji23⟩ : ∃ j_ : Int, (wrap64 ((ji20) + ji6)) = j_ := ⟨_, rfl⟩; replace H : (if 0 ≤ (ji23) then (if (ji23) < (l1.length : Int) then ((impl_field_power.f k1 a0_0 a0_1 a0_2 t373 (Int.tmod x10_1 ji6)).bind fun t376 => ((impl_field_mul.f a0_0 a0_1 a0_2 (rd l1 (ji23)) t376).bind fun t377 => ((impl_field_add.f a0_0 a0_1 a0_2 (rd l1 (ji20)) t377).bind fun t378 => (if (ji20) < (x7_1.length : Int) then ((impl_field_sub.f a0_0 a0_1 a0_2 (rd l1 (ji20)) t377).bind fun t380 => (if (ji23) < (x7_1.length : Int) then (impl_field_runStep.l0 k1 l1 ((x7_1.set ((ji20) : Int).toNat t378).set ((ji23) : Int).toNat t380) ji6 t373 (wrap64 (x10_1 + 1)) a0_0 a0_1 a0_2 a2_0 a2_1 a2_2) else (none))) else (none))))) else (none)) else (none)) = some r := by first | (rw [hji23] at H; exact H) | (simp only [hji23] at H ⊢; exact H)
               have hji23w : (IntKind.i64.wrap ((ji20) + ji6)) = ji23 := (i64_w _).trans hji23
               by_cases c24 : 0 ≤ (ji23)
               · rw [if_pos c24] at H; have c24b0 := decide_eq_true c24; clear c24
                 by_cases c25 : (ji23) < (l1.length : Int)
                 · rw [if_pos c25] at H; have c25b0 := decide_eq_true c25; clear c25; replace H := Option.bind_eq_some_iff.mp H; obtain ⟨t376, A260, H⟩ := H; replace H : ((impl_field_mul.f a0_0 a0_1 a0_2 (rd l1 (ji23)) t376).bind fun t377 => ((impl_field_add.f a0_0 a0_1 a0_2 (rd l1 (ji20)) t377).bind fun t378 => (if (ji20) < (x7_1.length : Int) then ((impl_field_sub.f a0_0 a0_1 a0_2 (rd l1 (ji20)) t377).bind fun t380 => (if (ji23) < (x7_1.length : Int) then (impl_field_runStep.l0 k1 l1 ((x7_1.set ((ji20) : Int).toNat t378).set ((ji23) : Int).toNat t380) ji6 t373 (wrap64 (x10_1 + 1)) a0_0 a0_1 a0_2 a2_0 a2_1 a2_2) else (none))) else (none)))) = some r := H
                   have A26 := Aside0.mk A260; clear A260; replace H := Option.bind_eq_some_iff.mp H; obtain ⟨t377, A270, H⟩ := H; replace H : ((impl_field_add.f a0_0 a0_1 a0_2 (rd l1 (ji20)) t377).bind fun t378 => (if (ji20) < (x7_1.length : Int) then ((impl_field_sub.f a0_0 a0_1 a0_2 (rd l1 (ji20)) t377).bind fun t380 => (if (ji23) < (x7_1.length : Int) then (impl_field_runStep.l0 k1 l1 ((x7_1.set ((ji20) : Int).toNat t378).set ((ji23) : Int).toNat t380) ji6 t373 (wrap64 (x10_1 + 1)) a0_0 a0_1 a0_2 a2_0 a2_1 a2_2) else (none))) else (none))) = some r := H
                   have A27 := Aside0.mk A270; clear A270; replace H := Option.bind_eq_some_iff.mp H; obtain ⟨t378, A280, H⟩ := H; replace H : (if (ji20) < (x7_1.length : Int) then ((impl_field_sub.f a0_0 a0_1 a0_2 (rd l1 (ji20)) t377).bind fun t380 => (if (ji23) < (x7_1.length : Int) then (impl_field_runStep.l0 k1 l1 ((x7_1.set ((ji20) : Int).toNat t378).set ((ji23) : Int).toNat t380) ji6 t373 (wrap64 (x10_1 + 1)) a0_0 a0_1 a0_2 a2_0 a2_1 a2_2) else (none))) else (none)) = some r := H
                   have A28 := Aside0.mk A280; clear A280
                   by_cases c29 : (ji20) < (x7_1.length : Int)
                   · rw [if_pos c29] at H; have c29b0 := decide_eq_true c29; clear c29; obtain ⟨y379, hy379⟩ : ∃ y_ : List Int, y_ = (x7_1.set ((ji20) : Int).toNat t378) := ⟨_, rfl⟩; replace H : ((impl_field_sub.f a0_0 a0_1 a0_2 (rd l1 (ji20)) t377).bind fun t380 => (if (ji23) < (x7_1.length : Int) then (impl_field_runStep.l0 k1 l1 (y379.set ((ji23) : Int).toNat t380) ji6 t373 (wrap64 (x10_1 + 1)) a0_0 a0_1 a0_2 a2_0 a2_1 a2_2) else (none))) = some r := by first | (rw [hy379]; with_reducible exact H) | (have H2_ := (Option.bind_some _ _).symm.trans H; rw [hy379]; with_reducible exact H2_) | (have H2_ := (Option.bind_some _ _).symm.trans H; with_reducible exact H2_) | with_reducible exact H | (rw [hy379]; exact H) | exact H
                     have Ny379 := Aside0.mk hy379; clear hy379; replace H := Option.bind_eq_some_iff.mp H; obtain ⟨t380, A310, H⟩ := H; replace H : (if (ji23) < (x7_1.length : Int) then (impl_field_runStep.l0 k1 l1 (y379.set ((ji23) : Int).toNat t380) ji6 t373 (wrap64 (x10_1 + 1)) a0_0 a0_1 a0_2 a2_0 a2_1 a2_2) else (none)) = some r := H
                     have A31 := Aside0.mk A310; clear A310
                     by_cases c32 : (ji23) < (x7_1.length : Int)
                     · rw [if_pos c32] at H; have c32b0 := decide_eq_true c32; clear c32; obtain ⟨y381, hy381⟩ : ∃ y_ : List Int, y_ = (y379.set ((ji23) : Int).toNat t380) := ⟨_, rfl⟩; replace H : (impl_field_runStep.l0 k1 l1 y381 ji6 t373 (wrap64 (x10_1 + 1)) a0_0 a0_1 a0_2 a2_0 a2_1 a2_2) = some r := by first | (rw [hy381]; with_reducible exact H) | (have H2_ := (Option.bind_some _ _).symm.trans H; rw [hy381]; with_reducible exact H2_) | (have H2_ := (Option.bind_some _ _).symm.trans H; with_reducible exact H2_) | with_reducible exact H | (rw [hy381]; exact H) | exact H
                       have Ny381 := Aside0.mk hy381; clear hy381; have H' := Aside0.mk H; clear H; have hnb34 := NB366_365.out; have hnc34 := NB365_366.out; obtain ⟨hcz35_0, hcz35_1, hcz35_2, hfz35_0, hfz35_1, hfz35_2⟩ := cel3 BK366; try go_wp2
                       replace HO_7 := Aside0.mk (Kd.R_drew HO_7.out); replace BK365 := Aside0.mk (blk_drew BK365.out); replace BK366 := Aside0.mk (blk_drew BK366.out); replace HB := Aside0.mk (below_drew1 HB.out); refine start_ (n := 11) (S := fun w' => True) (ds := []) #[false, false, false, false, false, false, false, false, false, false, false] (by kernel_rfl) rfl rfl trivial (fun hHeld => ?_); refine with_tabW impl_field_runStep.tab7 impl_field_runStep.bits7 (fun HT_ HW_ => ?_)
                       generalize wr.drew = w36 at HO_7 BK365 BK366 HB hHeld ⊢
                       refine pure_ (i := 0) (N := some 33) (v := ?_) (a' := ?_) #[true, false, false, false, false, false, false, false, false, false, false] rfl rfl (any_of HT_.out (by kernel_rfl)) (fun _ _ _ h => h) (Or.inl ⟨by rfl, ?_⟩) ?_ ?_
                       rotate_left
                       · intro w'; go_simp
                         with_reducible rfl
                       rotate_left
                       · simp only [Act.put, sa, sb, sc, i64_w, i32_w]
                         rfl
                       refine pure_ (i := 1) (N := some 34) (v := ?_) (a' := ?_) #[true, true, false, false, false, false, false, false, false, false, false] rfl rfl (any_of HT_.out (by kernel_rfl)) (fun _ _ _ h => h) (Or.inl ⟨by rfl, ?_⟩) ?_ ?_
                       rotate_left
                       · intro w'; go_simp
                         with_reducible rfl
                       rotate_left
                       · simp only [Act.put, sa, sb, sc, i64_w, i32_w]
                         rfl
                       refine pure_ (i := 2) (N := some 35) (v := ?_) (a' := ?_) #[true, true, true, false, false, false, false, false, false, false, false] rfl rfl (any_of HT_.out (by kernel_rfl)) (fun _ _ _ h => h) (Or.inl ⟨by rfl, ?_⟩) ?_ ?_
                       rotate_left
                       · intro w'; go_simp
                         with_reducible rfl
                       rotate_left
                       · simp only [Act.put, sa, sb, sc, i64_w, i32_w]
                         rfl
                       refine pure_ (i := 3) (N := some 36) (v := ?_) (a' := ?_) #[true, true, true, true, false, false, false, false, false, false, false] rfl rfl (any_of HT_.out (by kernel_rfl)) (fun _ _ _ h => h) (Or.inl ⟨by rfl, ?_⟩) ?_ ?_
                       rotate_left
                       · intro w'; go_simp
                         with_reducible rfl
                       rotate_left
                       · simp only [Act.put, sa, sb, sc, i64_w, i32_w]
                         rfl
                       refine pure_ (i := 4) (N := some 37) (v := ?_) (a' := ?_) #[true, true, true, true, true, false, false, false, false, false, false] rfl rfl (any_of HT_.out (by kernel_rfl)) (fun _ _ _ h => h) (Or.inl ⟨by rfl, ?_⟩) ?_ ?_
                       rotate_left
                       · intro w'; go_simp
                         with_reducible rfl
                       rotate_left
                       · simp only [Act.put, sa, sb, sc, i64_w, i32_w]
                         rfl
                       refine pure_ (i := 5) (N := some 38) (v := ?_) (a' := ?_) #[true, true, true, true, true, true, false, false, false, false, false] rfl rfl (any_of HT_.out (by kernel_rfl)) (fun _ _ _ h => h) (Or.inl ⟨by rfl, ?_⟩) ?_ ?_
                       rotate_left
                       · intro w'; go_simp
                         with_reducible rfl
                       rotate_left
                       · simp only [Act.put, sa, sb, sc, i64_w, i32_w]
                         rfl
                       refine pure_ (i := 6) (N := some 39) (v := ?_) (a' := ?_) #[true, true, true, true, true, true, true, false, false, false, false] rfl rfl (any_of HT_.out (by kernel_rfl)) (fun _ _ _ h => h) (Or.inl ⟨by rfl, ?_⟩) ?_ ?_
                       rotate_left
                       · intro w'; go_simp
                         with_reducible rfl
                       rotate_left
                       · simp only [Act.put, sa, sb, sc, i64_w, i32_w]
                         rfl
                       refine pure_ (i := 7) (N := some 40) (v := ?_) (a' := ?_) #[true, true, true, true, true, true, true, true, false, false, false] rfl rfl (any_of HT_.out (by kernel_rfl)) (fun _ _ _ h => h) (Or.inl ⟨by rfl, ?_⟩) ?_ ?_
                       rotate_left
                       · intro w'; go_simp
                         with_reducible rfl
                       rotate_left
                       · simp only [Act.put, sa, sb, sc, i64_w, i32_w]
                         rfl
                       refine pure_ (i := 8) (N := some 41) (v := ?_) (a' := ?_) #[true, true, true, true, true, true, true, true, true, false, false] rfl rfl (any_of HT_.out (by kernel_rfl)) (fun _ _ _ h => h) (Or.inl ⟨by rfl, ?_⟩) ?_ ?_
                       rotate_left
                       · intro w'; go_simp
                         with_reducible rfl
                       rotate_left
                       · simp only [Act.put, sa, sb, sc, i64_w, i32_w]
                         rfl
                       refine pure_ (i := 9) (N := some 42) (v := ?_) (a' := ?_) #[true, true, true, true, true, true, true, true, true, true, false] rfl rfl (any_of HT_.out (by kernel_rfl)) (fun _ _ _ h => h) (Or.inl ⟨by rfl, ?_⟩) ?_ ?_
                       rotate_left
                       · intro w'; go_simp
                         with_reducible rfl
                       rotate_left
                       · simp only [Act.put, sa, sb, sc, i64_w, i32_w]
                         rfl
                       refine pure_ (i := 10) (N := some 11) (v := ?_) (a' := ?_) #[true, true, true, true, true, true, true, true, true, true, true] rfl rfl (any_of HT_.out (by kernel_rfl)) (fun _ _ _ h => h) (Or.inl ⟨by rfl, ?_⟩) ?_ ?_
                       rotate_left
                       · intro w'; go_simp
                         with_reducible rfl
                       rotate_left
                       · simp only [Act.put, sa, sb, sc, i64_w, i32_w]
                         rfl
                       refine done_ (done_of HT_.out (by kernel_rfl)) ?_
                       try go_wp2
                       replace HO_7 := Aside0.mk (Kd.R_drew HO_7.out); replace BK365 := Aside0.mk (blk_drew BK365.out); replace BK366 := Aside0.mk (blk_drew BK366.out); replace HB := Aside0.mk (below_drew1 HB.out); have p374 : 0 ≤ ((ji20) : Int) := odA; have q374 : (ji20) < (l1.length : Int) := odA; obtain ⟨ad374, e374, hx374_0⟩ := Kd.at_int HR1.out (ji20) p374 q374; have hw374_0 := hx374_0
                       cases e374
                       try replace hx374_0 := cB HB hx374_0
                       replace p374 := eq_true p374; replace q374 := eq_true q374; have p375 : 0 ≤ ((ji23) : Int) := odA; have q375 : (ji23) < (l1.length : Int) := odA; obtain ⟨ad375, e375, hx375_0⟩ := Kd.at_int HR1.out (ji23) p375 q375; have hw375_0 := hx375_0; obtain rfl : ad374 = ad375 := (by injection e375); try replace hx375_0 := cB HB hx375_0
                       replace p375 := eq_true p375; replace q375 := eq_true q375; refine start_ (n := 20) (S := fun w' => w'.cell? ⟨gb365, 0, none⟩ = some (.int .i64 a0_0) ∧ w'.cell? ⟨gb365, 1, none⟩ = some (.int .i64 a0_1) ∧ w'.cell? ⟨gb365, 2, none⟩ = some (.int .i64 a0_2) ∧ w'.cell? (ad374.add ((ji20)).toNat) = some (.int .i64 (rd l1 (ji20))) ∧ w'.cell? (ad374.add ((ji23)).toNat) = some (.int .i64 (rd l1 (ji23)))) (ds := []) #[false, false, false, false, false, false, false, false, false, false, false, false, false, false, false, false, false, false, false, false] (by kernel_rfl) rfl rfl ⟨(blk_cell BK365.out 0).trans rfl, (blk_cell BK365.out 1).trans rfl, (blk_cell BK365.out 2).trans rfl, ((HB.out.cell (World.block_lt_of_cell? w _ hw374_0)).trans hw374_0), ((HB.out.cell (World.block_lt_of_cell? w _ hw375_0)).trans hw375_0)⟩ (fun hHeld => ?_); refine with_tabW impl_field_runStep.tab8 impl_field_runStep.bits8 (fun HT_ HW_ => ?_)
                       generalize w36.drew = w37 at HO_7 BK365 BK366 HB hx374_0 hx375_0 hHeld ⊢
                       refine pure_ (i := 0) (N := some 43) (v := ?_) (a' := ?_) #[true, false, false, false, false, false, false, false, false, false, false, false, false, false, false, false, false, false, false, false] rfl rfl (any_of HT_.out (by kernel_rfl)) (fun _ _ _ h => h) (Or.inl ⟨by rfl, ?_⟩) ?_ ?_
                       rotate_left
                       · intro w'; go_simp
                         with_reducible rfl
                       rotate_left
                       · simp only [Act.put, sa, sb, sc, i64_w, i32_w]
                         rfl
                       refine pure_ (i := 1) (N := some 44) (v := ?_) (a' := ?_) #[true, true, false, false, false, false, false, false, false, false, false, false, false, false, false, false, false, false, false, false] rfl rfl (any_of HT_.out (by kernel_rfl)) (fun _ _ _ h => h) (Or.inl ⟨by rfl, ?_⟩) ?_ ?_
                       rotate_left
                       · intro w'; go_simp
                         with_reducible rfl
                       rotate_left
                       · simp only [Act.put, sa, sb, sc, i64_w, i32_w]
                         rfl
                       refine pure_ (i := 2) (N := some 45) (v := ?_) (a' := ?_) #[true, true, true, false, false, false, false, false, false, false, false, false, false, false, false, false, false, false, false, false] rfl rfl (any_of HT_.out (by kernel_rfl)) (fun _ _ _ h => h) (Or.inl ⟨by rfl, ?_⟩) ?_ ?_
                       rotate_left
                       · intro w'; go_simp
                         with_reducible rfl
                       rotate_left
                       · simp only [Act.put, sa, sb, sc, i64_w, i32_w]
                         rfl
                       refine pure_ (i := 5) (N := some 48) (v := ?_) (a' := ?_) #[true, true, true, false, false, true, false, false, false, false, false, false, false, false, false, false, false, false, false, false] rfl rfl (any_of HT_.out (by kernel_rfl)) (fun _ _ _ h => h) (Or.inl ⟨by rfl, ?_⟩) ?_ ?_
                       rotate_left
                       · intro w'; go_simp
                         with_reducible rfl
                       rotate_left
                       · simp only [Act.put, sa, sb, sc, i64_w, i32_w]
                         rfl
                       refine pure_ (i := 6) (N := some 49) (v := ?_) (a' := ?_) #[true, true, true, false, false, true, true, false, false, false, false, false, false, false, false, false, false, false, false, false] rfl rfl (any_of HT_.out (by kernel_rfl)) (fun _ _ _ h => h) (Or.inl ⟨by rfl, ?_⟩) ?_ ?_
                       rotate_left
                       · intro w'; go_simp
                         with_reducible rfl
                       rotate_left
                       · simp only [Act.put, sa, sb, sc, i64_w, i32_w]
                         rfl
                       refine pure_ (i := 7) (N := some 50) (v := ?_) (a' := ?_) #[true, true, true, false, false, true, true, true, false, false, false, false, false, false, false, false, false, false, false, false] rfl rfl (any_of HT_.out (by kernel_rfl)) (fun _ _ _ h => h) (Or.inl ⟨by rfl, ?_⟩) ?_ ?_
                       rotate_left
                       · intro w'; go_simp
                         with_reducible rfl
                       rotate_left
                       · simp only [Act.put, sa, sb, sc, i64_w, i32_w]
                         rfl
                       refine pure_ (i := 8) (N := some 51) (v := ?_) (a' := ?_) #[true, true, true, false, false, true, true, true, true, false, false, false, false, false, false, false, false, false, false, false] rfl rfl (any_of HT_.out (by kernel_rfl)) (fun _ _ _ h => h) (Or.inl ⟨by rfl, ?_⟩) ?_ ?_
                       rotate_left
                       · intro w'; go_simp
                         with_reducible rfl
                       rotate_left
                       · simp only [Act.put, sa, sb, sc, i64_w, i32_w]
                         rfl
                       refine pure_ (i := 9) (N := some 52) (v := ?_) (a' := ?_) #[true, true, true, false, false, true, true, true, true, true, false, false, false, false, false, false, false, false, false, false] rfl rfl (any_of HT_.out (by kernel_rfl)) (fun _ _ _ h => h) (Or.inl ⟨by rfl, ?_⟩) ?_ ?_
                       rotate_left
                       · intro w'; go_simp
                         with_reducible rfl
                       rotate_left
                       · simp only [Act.put, sa, sb, sc, i64_w, i32_w]
                         rfl
                       refine pure_ (i := 12) (N := some 55) (v := ?_) (a' := ?_) #[true, true, true, false, false, true, true, true, true, true, false, false, true, false, false, false, false, false, false, false] rfl rfl (any_of HT_.out (by kernel_rfl)) (fun _ _ _ h => h) (Or.inl ⟨by rfl, ?_⟩) ?_ ?_
                       rotate_left
                       · intro w'; go_simp
                         with_reducible rfl
                       rotate_left
                       · simp only [Act.put, sa, sb, sc, i64_w, i32_w]
                         rfl
                       refine pure_ (i := 13) (N := some 56) (v := ?_) (a' := ?_) #[true, true, true, false, false, true, true, true, true, true, false, false, true, true, false, false, false, false, false, false] rfl rfl (any_of HT_.out (by kernel_rfl)) (fun _ _ _ h => h) (Or.inl ⟨by rfl, ?_⟩) ?_ ?_
                       rotate_left
                       · intro w'; go_simp
                         with_reducible rfl
                       rotate_left
                       · simp only [Act.put, sa, sb, sc, i64_w, i32_w]
                         rfl
                       refine pure_ (i := 14) (N := some 57) (v := ?_) (a' := ?_) #[true, true, true, false, false, true, true, true, true, true, false, false, true, true, true, false, false, false, false, false] rfl rfl (any_of HT_.out (by kernel_rfl)) (fun _ _ _ h => h) (Or.inl ⟨by rfl, ?_⟩) ?_ ?_
                       rotate_left
                       · intro w'; go_simp
                         with_reducible rfl
                       rotate_left
                       · simp only [Act.put, sa, sb, sc, i64_w, i32_w]
                         rfl
                       refine pure_ (i := 15) (N := some 58) (v := ?_) (a' := ?_) #[true, true, true, false, false, true, true, true, true, true, false, false, true, true, true, true, false, false, false, false] rfl rfl (any_of HT_.out (by kernel_rfl)) (fun _ _ _ h => h) (Or.inl ⟨by rfl, ?_⟩) ?_ ?_
                       rotate_left
                       · intro w'; go_simp
                         with_reducible rfl
                       rotate_left
                       · simp only [Act.put, sa, sb, sc, i64_w, i32_w]
                         rfl
                       refine take_ (i := 3) (N := some 46) (v := ?_) (a' := ?_) #[true, true, true, true, false, true, true, true, true, true, false, false, true, true, true, true, false, false, false, false] rfl rfl (take_ofW HT_.out HW_.out (by kernel_rfl)) (fun _ _ _ h => h) (Or.inl ⟨by rfl, ?_⟩) hHeld ?_ ?_
                       rotate_left
                       · rintro w' ⟨s0, s1, s2, s3, s4⟩
                         go_simp
                         with_reducible rfl
                       rotate_left
                       · simp only [Act.put, sa, sb, sc, i64_w, i32_w]
                         rfl
                       refine take_ (i := 4) (N := some 47) (v := ?_) (a' := ?_) #[true, true, true, true, true, true, true, true, true, true, false, false, true, true, true, true, false, false, false, false] rfl rfl (take_ofW HT_.out HW_.out (by kernel_rfl)) (fun _ _ _ h => h) (Or.inl ⟨by rfl, ?_⟩) hHeld ?_ ?_
                       rotate_left
                       · rintro w' ⟨s0, s1, s2, s3, s4⟩
                         go_simp
                         with_reducible rfl
                       rotate_left
                       · simp only [Act.put, sa, sb, sc, i64_w, i32_w]
                         rfl
                       refine take_ (i := 10) (N := some 53) (v := ?_) (a' := ?_) #[true, true, true, true, true, true, true, true, true, true, true, false, true, true, true, true, false, false, false, false] rfl rfl (take_ofW HT_.out HW_.out (by kernel_rfl)) (fun _ _ _ h => h) (Or.inl ⟨by rfl, ?_⟩) hHeld ?_ ?_
                       rotate_left
                       · rintro w' ⟨s0, s1, s2, s3, s4⟩
                         go_simp
                         with_reducible rfl
                       rotate_left
                       · simp only [Act.put, sa, sb, sc, i64_w, i32_w]
                         rfl
                       refine take_ (i := 11) (N := some 54) (v := ?_) (a' := ?_) #[true, true, true, true, true, true, true, true, true, true, true, true, true, true, true, true, false, false, false, false] rfl rfl (take_ofW HT_.out HW_.out (by kernel_rfl)) (fun _ _ _ h => h) (Or.inl ⟨by rfl, ?_⟩) hHeld ?_ ?_
                       rotate_left
                       · rintro w' ⟨s0, s1, s2, s3, s4⟩
                         go_simp
                         with_reducible rfl
                       rotate_left
                       · simp only [Act.put, sa, sb, sc, i64_w, i32_w]
                         rfl
                       refine one_ (i := 16) (N := some 59) #[true, true, true, true, true, true, true, true, true, true, true, true, true, true, true, true, true, false, false, false] rfl rfl (one_of HT_.out (by kernel_rfl)) (by decide) (fun K hK => ?_)
                       refine goes_ Try.func124 (by kernel_rfl) rfl #[.agg #[.int .i64 a0_0, .int .i64 a0_1, .int .i64 a0_2], .int .i64 t373, .int .i64 (Int.tmod x10_1 ji6)] (by rfl) rfl rfl (by (try simp only [List.map_toArray, List.map_cons, List.map_nil]); first | done | (simp only [hji6]; rfl) | rfl | (simp only [List.length_drop, List.length_take]; rfl)) ?_
                       with_reducible refine (impl_field_power.calls k1 a0_0 a0_1 a0_2 t373 (Int.tmod x10_1 ji6) t376 _ A26.out).mono ?_
                       rintro e w38 ⟨rfl, hb⟩
                       refine ⟨_, rfl, ?_⟩
                       replace HO_7 := rB HO_7 hb; replace BK365 := bB BK365 hb; replace BK366 := bB BK366 hb; replace HB := bS hb; (try clear hb); (try clear hb2); (try clear hk); (try clear hi); refine hK.out _ _ ⟨(blk_cell BK365.out 0).trans rfl, (blk_cell BK365.out 1).trans rfl, (blk_cell BK365.out 2).trans rfl, ((HB.out.cell (World.block_lt_of_cell? w _ hw374_0)).trans hw374_0), ((HB.out.cell (World.block_lt_of_cell? w _ hw375_0)).trans hw375_0)⟩ (fun hHeld => ?_)
                       clear hK K; refine norm_ (a' := ?_) ?_ ?_
                       rotate_left
                       · show Act.put _ (some 59) _ = _
                         simp only [Act.put, sa, sb, sc, i64_w, i32_w]
                         rfl
                       refine one_ (i := 17) (N := some 60) #[true, true, true, true, true, true, true, true, true, true, true, true, true, true, true, true, true, true, false, false] rfl rfl (one_of HT_.out (by kernel_rfl)) (by decide) (fun K hK => ?_)
                       refine goes_ Try.func123 (by kernel_rfl) rfl #[.agg #[.int .i64 a0_0, .int .i64 a0_1, .int .i64 a0_2], .int .i64 (rd l1 (ji23)), .int .i64 t376] (by rfl) rfl rfl (by (try simp only [List.map_toArray, List.map_cons, List.map_nil]); first | done | (simp only [hji23]; rfl) | rfl | (simp only [List.length_drop, List.length_take]; rfl)) ?_
                       with_reducible refine (impl_field_mul.calls a0_0 a0_1 a0_2 (rd l1 (ji23)) t376 t377 _ A27.out).mono ?_
                       rintro e w39 ⟨rfl, hb⟩
                       refine ⟨_, rfl, ?_⟩
                       replace HO_7 := rB HO_7 hb; replace BK365 := bB BK365 hb; replace BK366 := bB BK366 hb; replace HB := bS hb; (try clear hb); (try clear hb2); (try clear hk); (try clear hi); refine hK.out _ _ ⟨(blk_cell BK365.out 0).trans rfl, (blk_cell BK365.out 1).trans rfl, (blk_cell BK365.out 2).trans rfl, ((HB.out.cell (World.block_lt_of_cell? w _ hw374_0)).trans hw374_0), ((HB.out.cell (World.block_lt_of_cell? w _ hw375_0)).trans hw375_0)⟩ (fun hHeld => ?_)
                       clear hK K; refine norm_ (a' := ?_) ?_ ?_
                       rotate_left
                       · show Act.put _ (some 60) _ = _
                         simp only [Act.put, sa, sb, sc, i64_w, i32_w]
                         rfl
                       refine pure_ (i := 18) (N := some 12) (v := ?_) (a' := ?_) #[true, true, true, true, true, true, true, true, true, true, true, true, true, true, true, true, true, true, true, false] rfl rfl (any_of HT_.out (by kernel_rfl)) (fun _ _ _ h => h) (Or.inl ⟨by rfl, ?_⟩) ?_ ?_
                       rotate_left
                       · intro w'; go_simp
                         with_reducible rfl
                       rotate_left
                       · simp only [Act.put, sa, sb, sc, i64_w, i32_w]
                         rfl
                       refine pure_ (i := 19) (N := some 13) (v := ?_) (a' := ?_) #[true, true, true, true, true, true, true, true, true, true, true, true, true, true, true, true, true, true, true, true] rfl rfl (any_of HT_.out (by kernel_rfl)) (fun _ _ _ h => h) (Or.inl ⟨by rfl, ?_⟩) ?_ ?_
                       rotate_left
                       · intro w'; go_simp
                         with_reducible rfl
                       rotate_left
                       · simp only [Act.put, sa, sb, sc, i64_w, i32_w]
                         rfl
                       refine done_ (done_of HT_.out (by kernel_rfl)) ?_
                       obtain ⟨hcz40_0, hcz40_1, hcz40_2, hfz40_0, hfz40_1, hfz40_2⟩ := cel3 BK365; try go_wp2_with (first | ((with_reducible refine gate_callee (f := 125) rfl ?_); refine goesL_ (some 66) rfl rfl Try.func125 (by kernel_rfl) rfl #[.agg #[.int .i64 a0_0, .int .i64 a0_1, .int .i64 a0_2], .int .i64 (rd l1 (ji20)), .int .i64 t377] rfl xq30 ?_; (with_reducible refine (impl_field_add.calls a0_0 a0_1 a0_2 (rd l1 (ji20)) t377 t378 _ A28.out).mono ?_); rintro e w41 ⟨rfl, hb⟩; refine ⟨_, rfl, ?_⟩; replace HO_7 := rB HO_7 hb; replace BK365 := bB BK365 hb; replace BK366 := bB BK366 hb; replace HB := bS hb; (try clear hb); (try clear hb2); (try clear hk); (try clear hi); have p30 : 0 ≤ ((ji20) : Int) := odA; have q30 : ((ji20) : Int) < ((x7_1.length : Int) : Int) := odA; obtain ⟨go30, co30, eo30, gb30, gl30, cl30, HG30⟩ := Kd.R_form HO_7.out (by omega); (first | cases eo30 | (injection eo30 with ea_ en_ ec_; (first | subst ea_ | (injection ea_ with ea_; subst ea_)); subst ec_; clear en_)); have GB30 := Aside0.mk gb30; have GG30 := Aside0.mk HG30; clear gb30 gl30 HG30; obtain ⟨hx30_0, hf30_0⟩ := Kd.R_celln 0 HO_7.out ((ji20) : Int) p30 q30; replace p30 := eq_true p30; replace q30 := eq_true q30; obtain ⟨hy42_, hz42_⟩ := Kd.R_celln 0 HO_7.out ((ji20) : Int) (odA) (odA); have HP42 := Kd.R_putg HO_7.out ((ji20) : Int) t378) | ((with_reducible refine gate_store (t := 3) (p := 67) rfl ?_); refine store_event (t := 3) (p := 67) (v := ?vo_w43) (w1 := (w41.setCell ⟨go30, ((ji20) : Int).toNat, none⟩ (.int .i64 t378))) ?hg ?ho ?hn ?hr ?_; (case ho => rfl); (case hg => rfl); (case hn => rfl); (case hr => exact xq10); intro w43 hw; have hg : w41.grownBy w43 (some go30) := (by rw [hw]; exact HP42.2); have hp_ : Kd.R (Kd.int .i64) 3 w43 w.heap.size (fun _ => True) (.slice (some ⟨go30, 0, none⟩) x7_1.length co30) y379 := (by rw [hw, Ny379.out]; exact HP42.1); clear HP42; have n0_ := Aside0.mk hp_; have n1_ := Aside0.mk (blk_grown (g := gb365) (o := .cells #[.int .i64 a0_0, .int .i64 a0_1, .int .i64 a0_2] 95 (0, 0)) blkA hg (Kd.R_ne HO_7.out BK365.out (by decide))); have n2_ := Aside0.mk (blk_grown (g := gb366) (o := .cells #[.int .i64 a2_0, .int .i64 a2_1, .int .i64 a2_2] 36 (0, 0)) blkA hg (Kd.R_ne HO_7.out BK366.out (by decide))); have n3_ := Aside0.mk ((by rw [hw]; exact below_set (HB.out) GB30.out : Below w.heap.size w w43)); clear HO_7; clear BK365; clear BK366; clear HB; have HO_7 := n0_; have BK365 := n1_; have BK366 := n2_; have HB := n3_; clear n0_ n1_ n2_ n3_; clear hg hw hp_; obtain ⟨hcz44_0, hcz44_1, hcz44_2, hfz44_0, hfz44_1, hfz44_2⟩ := cel3 BK365) | ((with_reducible refine gate_callee (f := 126) rfl ?_); refine goesL_ (some 75) rfl rfl Try.func126 (by kernel_rfl) rfl #[.agg #[.int .i64 a0_0, .int .i64 a0_1, .int .i64 a0_2], .int .i64 (rd l1 (ji20)), .int .i64 t377] rfl xq30 ?_; (with_reducible refine (impl_field_sub.calls a0_0 a0_1 a0_2 (rd l1 (ji20)) t377 t380 _ A31.out).mono ?_); rintro e w45 ⟨rfl, hb⟩; refine ⟨_, rfl, ?_⟩; replace HO_7 := rB HO_7 hb; replace BK365 := bB BK365 hb; replace BK366 := bB BK366 hb; replace HB := bS hb; (try clear hb); (try clear hb2); (try clear hk); (try clear hi); have p33 : 0 ≤ ((ji23) : Int) := odA; have q33 : ((ji23) : Int) < ((x7_1.length : Int) : Int) := odA; obtain ⟨hx33_0, hf33_0⟩ := Kd.R_celln 0 HO_7.out ((ji23) : Int) p33 q33; replace p33 := eq_true p33; replace q33 := eq_true q33; obtain ⟨hy46_, hz46_⟩ := Kd.R_celln 0 HO_7.out ((ji23) : Int) (odA) (odA); have HP46 := Kd.R_putg HO_7.out ((ji23) : Int) t380) | ((with_reducible refine gate_store (t := 3) (p := 76) rfl ?_); refine store_event (t := 3) (p := 76) (v := ?vo_w47) (w1 := (w45.setCell ⟨go30, ((ji23) : Int).toNat, none⟩ (.int .i64 t380))) ?hg ?ho ?hn ?hr ?_; (case ho => rfl); (case hg => rfl); (case hn => rfl); (case hr => exact xq10); intro w47 hw; have hg : w45.grownBy w47 (some go30) := (by rw [hw]; exact HP46.2); have hp_ : Kd.R (Kd.int .i64) 3 w47 w.heap.size (fun _ => True) (.slice (some ⟨go30, 0, none⟩) x7_1.length co30) y381 := (by rw [hw, Ny381.out]; exact HP46.1); clear HP46; have n0_ := Aside0.mk hp_; have n1_ := Aside0.mk (blk_grown (g := gb365) (o := .cells #[.int .i64 a0_0, .int .i64 a0_1, .int .i64 a0_2] 95 (0, 0)) blkA hg (Kd.R_ne HO_7.out BK365.out (by decide))); have n2_ := Aside0.mk (blk_grown (g := gb366) (o := .cells #[.int .i64 a2_0, .int .i64 a2_1, .int .i64 a2_2] 36 (0, 0)) blkA hg (Kd.R_ne HO_7.out BK366.out (by decide))); have n3_ := Aside0.mk ((by rw [hw]; exact below_set (HB.out) GB30.out : Below w.heap.size w w47)); clear HO_7; clear BK365; clear BK366; clear HB; have HO_7 := n0_; have BK365 := n1_; have BK366 := n2_; have HB := n3_; clear n0_ n1_ n2_ n3_; clear hg hw hp_))
                       go_roundg k1
                       case measure => have := HK1.out; omega
                       case rel => exact ⟨(y381), (wrap64 (x10_1 + 1)), eqA, H', ⟨xq12⟩, ⟨rA HO_7⟩, ⟨blkA⟩, ⟨blkA⟩, ⟨belA⟩⟩
                     · rw [if_neg c32] at H; exact absurd H (by simp)
                   · rw [if_neg c29] at H; exact absurd H (by simp)
                 · rw [if_neg c25] at H; exact absurd H (by simp)
               · rw [if_neg c24] at H; exact absurd H (by simp)
             · rw [if_neg c22] at H; exact absurd H (by simp)
           · rw [if_neg c21] at H; exact absurd H (by simp)
       · rw [if_neg c18] at H; have c18b0 := decide_eq_false c18; clear c18; obtain rfl := Option.some.inj H; have hnb48 := NB366_365.out; have hnc48 := NB365_366.out; obtain ⟨hcz49_0, hcz49_1, hcz49_2, hfz49_0, hfz49_1, hfz49_2⟩ := cel3 BK366; go_wp2
         go_ret
         exact ⟨_, by first | rfl | (simp [errW_none, errW_some] <;> rfl) | (simp only [← hji6]; first | rfl | (simp [errW_none, errW_some] <;> rfl)) | (simp [*, errW_none, errW_some] <;> rfl) | (simp [wrap64]; done) | (simp [*, wrap64]; done), xq64, belA⟩
   · rw [if_neg c5] at H; exact absurd H (by simp)
 · rw [if_neg c4] at H; exact absurd H (by simp)

end Go.Proofs.Ytbojabmpcfclhaa.PFnPlanAny

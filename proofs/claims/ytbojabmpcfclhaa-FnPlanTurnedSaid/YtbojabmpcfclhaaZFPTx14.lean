-- Written by a program of this session (the print of the kit with contracts of this session's own added)
import Derived.Test.YtbojabmpcfclhaaZFPTx9
set_option maxHeartbeats 8000000
set_option maxRecDepth 100000
namespace Go.Proofs.Ytbojabmpcfclhaa.PFnPlanTurned
open Go.RowKit Go.Proofs.YtbojabmpcfclhaaW.PrintWords Go.Proofs.YtbojabmpcfclhaaW.PrintLast Go.Proofs.YtbojabmpcfclhaaW.PrintMore Go.Proofs.YtbojabmpcfclhaaW.PrintPack Go.Proofs.YtbojabmpcfclhaaW.PrintPack
attribute [local go_sem] max2_int min2_int max_two min_two max_three min_three max_four min_four   -- for this text's walks alone
set_option linter.unusedVariables false
set_option linter.unusedSimpArgs false

def impl_ranges.l0 : Nat → Int → List (S36) → Int → Int → Int → Option ((List (S36)))
 | 0, _, _, _, _, _ => none
 | k + 1, x1, x5, x408000, x408001, x408002 => if x408001 < x408002 then (if x5.length < 5864062014805 then (impl_ranges.l0 k x1 (x5 ++ [(⟨x408000, x408001, wrap64 (x408001 + (mn x1 (wrap64 (x408002 - x408001))))⟩ : S36)]) x408000 (wrap64 (x408001 + (mn x1 (wrap64 (x408002 - x408001))))) x408002) else (none)) else (some x5)
def impl_ranges.f (k : Nat) (a0_0 : Int) (a0_1 : Int) (a0_2 : Int) (a1 : Int) : Option ((List (S36))) := impl_ranges.l0 k a1 (([] : List (S36))) a0_0 a0_1 a0_2
theorem impl_ranges.mono_l : ∀ k, (∀ y0 y1 y2 y3 y4, LeO (impl_ranges.l0 k y0 y1 y2 y3 y4) (impl_ranges.l0 (k + 1) y0 y1 y2 y3 y4))
 | 0 => fun _ _ _ _ _ r h => by simp [impl_ranges.l0] at h
 | k + 1 => by
  have ih0 := impl_ranges.mono_l k
  · intro y0 y1 y2 y3 y4; unfold impl_ranges.l0; exact (by repeat' (with_reducible first | exact ih0 _ _ _ _ _ | exact LeO.refl _ | exact LeO.none _ | refine LeO.ite ?_ ?_ | refine LeO.bind ?_ (fun _ => ?_)))
theorem impl_ranges.mono : ∀ a0 a1 a2 a3 k, LeO (impl_ranges.f k a0 a1 a2 a3) (impl_ranges.f (k + 1) a0 a1 a2 a3) := by
 intro a0 a1 a2 a3 k; have b0 := impl_ranges.mono_l k
 unfold impl_ranges.f
 exact (by repeat' (with_reducible first | exact b0 _ _ _ _ _ | exact LeO.refl _ | exact LeO.none _ | refine LeO.ite ?_ ?_ | refine LeO.bind ?_ (fun _ => ?_)))
theorem impl_ranges.calls (k : Nat) (a0_0 : Int) (a0_1 : Int) (a0_2 : Int) (a1 : Int) (r : List (S36)) (w : World) (h : impl_ranges.f k a0_0 a0_1 a0_2 a1 = some r) :
 Calls Try.prog 85 #[.agg #[.int .i64 a0_0, .int .i64 a0_1, .int .i64 a0_2], .int .i64 a1] w fun e w' => ∃ v0_ : Value, e = .returned (v0_) ∧ Kd.R k36 36 w' w.heap.size (fun _ => True) v0_ r ∧ Below w.heap.size w w' := by
 have B0 := Try.underlying36; have HB := ak (Below.refl w.heap.size w); have H : (impl_ranges.l0 k a1 (([] : List (S36))) a0_0 a0_1 a0_2) = some r := h; clear h; obtain ⟨K0, hyq⟩ : ∃ y_ : List (S36), y_ = (([] : List (S36))) := ⟨_, rfl⟩; replace H : (impl_ranges.l0 k a1 K0 a0_0 a0_1 a0_2) = some r := by first | (rw [hyq]; with_reducible exact H) | (have e0 := (Option.bind_some _ _).symm.trans H; rw [hyq]; with_reducible exact e0) | (have e0 := (Option.bind_some _ _).symm.trans H; with_reducible exact e0) | with_reducible exact H | (rw [hyq]; exact H) | exact H
 have E0 := ak hyq; clear hyq; have H' := ak H; clear H; go_enter Try.func85, Try.ntmps85
 go_wp2_with (first | ((with_reducible refine gate_dst (N := 2) rfl ?_); refine boxA 2 #[.int .i64 a0_0, .int .i64 a0_1, .int .i64 a0_2] 36 ?_; intro c0 hg w3 hbox hb; have C0 := ak hbox; have y0 := leA (w := w) hg; have Y0 := leA (w := w) hg; replace HB := bS hb; clear hb hbox hg) | ((with_reducible refine gate_dst (N := 7) rfl ?_); refine Kd.R_lit k36 _ 36 ?hg (N := 7) ?hd (xs := ([] : List (S36))) (inner := []) (ok := fun _ => True) (okp := fun _ => True) ?hr ?hp (fun _ hk => hk) trivial (Below.refl _ _) (Nat.le_refl _) (by simp) ?_; (case hd => rfl); (case hg => rfl); (case hr => exact xq4); (case hp => exact (Reps.none _ _)); intro d0 w4 D0 hb hg_ hnew_; clear hg_ hnew_; (first | rw [← E0.out] at D0 | (simp only [Int.reduceToNat] at D0; rw [← E0.out] at D0)); have f0 := rL (Kd.R_newB D0 (g := c0) (o := .cells #[.int .i64 a0_0, .int .i64 a0_1, .int .i64 a0_2] 36 (0, 0)) blkA); replace C0 := bB C0 hb; replace HB := bS hb; clear hb D0))
 go_loopg [5] k (fun kq v5 w' => ∃ (W0 : List (S36)) (W1 : Int), Aside0 (impl_ranges.l0 kq a1 W0 a0_0 W1 a0_2 = some r) ∧ Aside0 (kq ≤ k) ∧ Aside0 (Kd.R k36 36 w' w.heap.size (fun k_ => k_ ≠ c0) v5 W0) ∧ Aside0 (w'.heap[c0]? = some (.cells #[.int .i64 a0_0, .int .i64 W1, .int .i64 a0_2] 36 (0, 0))) ∧ Aside0 (Below w.heap.size w w'))
 case atStart => exact ⟨(K0), (a0_1), H', ⟨Nat.le_refl _⟩, ⟨rE (Kd.R_mono f0.out (fun _ hk => hk.2))⟩, ⟨blkA⟩, ⟨belA⟩⟩
 case round =>
  clear H'; obtain ⟨W0, W1, HA, n0, f1, C0, HB⟩ := hrel
  cases gk with
  | zero => exact absurd HA.out (by simp [impl_ranges.l0])
  | succ k1 =>
   have H := HA.out; clear HA; simp only [impl_ranges.l0] at H
   by_cases c6 : W1 < a0_2; rotate_left
   · rw [if_neg c6] at H; have N0 := decide_eq_false c6; clear c6; obtain rfl := Option.some.inj H; obtain ⟨_, _, _, _, _, _⟩ := cel3 C0; go_wp2
     go_ret
     exact ⟨_, xq1, by (with_reducible repeat (first | apply Kd.R_alloc | apply Kd.R_drewN | apply Kd.R_drew)); exact Kd.R_mono f1.out (fun _ hk => trivial), belA⟩
   rw [if_pos c6] at H; have N0 := decide_eq_true c6; clear c6; obtain ⟨J0, G0⟩ : ∃ j_ : Int, (mn a1 (wrap64 (a0_2 - W1))) = j_ := ⟨_, rfl⟩; replace H : (if W0.length < 5864062014805 then (impl_ranges.l0 k1 a1 (W0 ++ [(⟨a0_0, W1, wrap64 (W1 + (J0))⟩ : S36)]) a0_0 (wrap64 (W1 + (J0))) a0_2) else (none)) = some r := by first | (rw [G0] at H; exact H) | (simp only [G0] at H ⊢; exact H)
   have G1 : (if (wrap64 (a0_2 - W1)) < a1 then (wrap64 (a0_2 - W1)) else a1) = J0 := G0
   by_cases c8 : W0.length < 5864062014805; rotate_left
   · rw [if_neg c8] at H; exact absurd H (by simp)
   rw [if_pos c8] at H; have c1 := ak c8; clear c8; obtain ⟨K1, hyq⟩ : ∃ y_ : List (S36), y_ = (W0 ++ [(⟨a0_0, W1, wrap64 (W1 + (J0))⟩ : S36)]) := ⟨_, rfl⟩; replace H : (impl_ranges.l0 k1 a1 K1 a0_0 (wrap64 (W1 + (J0))) a0_2) = some r := by first | (rw [hyq]; with_reducible exact H) | (have e0 := (Option.bind_some _ _).symm.trans H; rw [hyq]; with_reducible exact e0) | (have e0 := (Option.bind_some _ _).symm.trans H; with_reducible exact e0) | with_reducible exact H | (rw [hyq]; exact H) | exact H
   have E1 := ak hyq; clear hyq; have H' := ak H; clear H; obtain ⟨_, _, _, _, _, _⟩ := cel3 C0; go_wp2_with (first | ((with_reducible refine gate_dst (N := 6) rfl ?_); refine boxA 6 #[.int .i64 0, .int .i64 0, .int .i64 0] 36 ?_; intro ca hg k0 hbox hb; have C1 := ak hbox; have y1 := leA (w := w) hg; have Y1 := leA (w := w) hg; have i0 := neL hg C0; have i1 := neG hg C0; replace f1 := ak (Kd.R_below (Kd.R_elderB (rF f1) ca (Nat.le_of_eq hg.symm)) hb); replace C0 := bB C0 hb; replace HB := bS hb; clear hb hbox hg; have I0 := i1.out; have j3 := i0.out; obtain ⟨_, _, _, _, _, _⟩ := cel3 C1) | ((with_reducible refine gate_builtin (b := .append) (xs := #[.tmp 28, .tmp 30]) rfl ?_); at_builtin; refine Kd.R_append k36 (w0 := w) w.heap.size rfl (.tmp 28) (.tmp 30) 24 36 (.agg #[(.int .i64 0), (.int .i64 0), (.int .i64 0)]) 24 rfl Try.underlying24 info36 rfl (by decide) (by omega) u5 W0 (⟨a0_0, W1, wrap64 (W1 + (J0))⟩ : S36) [.int .i64 a0_0, .int .i64 W1, .int .i64 (wrap64 (W1 + (J0)))] (fun k_ => k_ ≠ c0 ∧ k_ ≠ ca) (fun _ => False) rfl xq4 ?aP (fun _ hk => hk.elim) ?aF ?aO ?aB ?aS ?aL ?_; (case aP => exact k36_mkM _ _ _ (⟨a0_0, W1, wrap64 (W1 + (J0))⟩ : S36)); (case aB => exact belA); (case aF => exact (fun k_ hk => ⟨Kd.freshB (g := c0) (o := .cells #[.int .i64 a0_0, .int .i64 W1, .int .i64 a0_2] 36 (0, 0)) xq18 k_ hk, Kd.freshB (g := ca) (o := .cells #[.int .i64 a0_0, .int .i64 W1, .int .i64 (wrap64 (W1 + (J0)))] 36 (0, 0)) xq89 k_ hk⟩)); (case aO => exact (rE (Kd.R_mono (Kd.R_far (p := ⟨ca, 2, none⟩) (Kd.R_far (p := ⟨ca, 1, none⟩) (Kd.R_far (p := ⟨ca, 0, none⟩) (Kd.R_mono f1.out (fun k_ hk => (⟨hk, hk.2⟩ : _ ∧ k_ ≠ ca))) (fun _ hk => hk.2) (.int .i64 a0_0)) (fun _ hk => hk.2) (.int .i64 W1)) (fun _ hk => hk.2) (.int .i64 (wrap64 (W1 + (J0))))) (fun _ hk => ⟨hk.1.1, hk.1.2⟩)))); (case aS => exact (below_size belA)); (case aL => exact xq36); intro d1 k2 ho hb hg hat; rw [← E1.out] at ho; have f2 := ak ho; replace C0 := ak (blk_grown (g := c0) (o := .cells #[.int .i64 a0_0, .int .i64 W1, .int .i64 a0_2] 36 (0, 0)) xq18 hg (Kd.R_away f1.out (fun _ hk => hk.1))); replace C1 := ak (blk_grown (g := ca) (o := .cells #[.int .i64 a0_0, .int .i64 W1, .int .i64 (wrap64 (W1 + (J0)))] 36 (0, 0)) xq89 hg (Kd.R_away f1.out (fun _ hk => hk.2))); replace HB := ak hb; clear f1; clear ho hb hg hat; obtain ⟨_, _, _, _, _, _⟩ := cel3 C1; obtain ⟨_, _, _, _, _, _⟩ := cel3 C0))
   go_roundg k1
   case measure => have := n0.out; omega
   case rel => exact ⟨(K1), (wrap64 (W1 + (J0))), H', ⟨xq16⟩, ⟨rE (Kd.R_mono (Kd.R_far (p := ⟨c0, 1, none⟩) (Kd.R_mono f2.out (fun k_ hk => (⟨hk, hk.1⟩ : _ ∧ k_ ≠ c0))) (fun _ hk => hk.2) (.int .i64 (wrap64 (W1 + (J0))))) (fun _ hk => hk.1.1))⟩, ⟨by (with_reducible repeat (first | refine blk_drewN ?_ _ | refine blk_drew ?_ | refine blk_alloc ?_ _)); refine blk_put (cs := #[.int .i64 a0_0, .int .i64 W1, .int .i64 a0_2]) ?_ 1 _ rfl; (with_reducible repeat (first | refine blk_drewN ?_ _ | refine blk_drew ?_ | refine blk_alloc ?_ _)); exact C0.out⟩, ⟨belA⟩⟩

mutual
def impl_MakePlan.j0 : Nat → Int → Int → Int → Bool → Option (Int × Int × (List (S36)) × Bool)
 | 0, _, _, _, _ => none
 | k + 1, x0, x1, x2, x33 => if x33 = true then (some (0, 0, ([] : List (S36)), false)) else (impl_MakePlan.l0 k x1 x2 x1 0 x0 x1 ([] : List (S36)))
def impl_MakePlan.l0 : Nat → Int → Int → Int → Int → Int → Int → List (S36) → Option (Int × Int × (List (S36)) × Bool)
 | 0, _, _, _, _, _, _, _ => none
 | k + 1, x1, x2, x38, x39, x422000, x422001, x422002 => if x39 < x38 then (if 0 ≤ (wrap64 (x1 - 1)) then ((impl_ranges.f k x39 0 (shl .i64 1 (wrap64 (x1 - 1))) x2).bind fun t422 => (if x422002.length + t422.length < 5864062014805 then (impl_MakePlan.l0 k x1 x2 x38 (wrap64 (x39 + 1)) x422000 x422001 (x422002 ++ t422)) else (none))) else (none)) else (if (x422002.length : Int) > 600 then (some (0, 0, ([] : List (S36)), false)) else (some (x422000, x422001, x422002, true)))
end
def impl_MakePlan.f (k : Nat) (a0 : Int) (a1 : Int) (a2 : Int) : Option (Int × Int × (List (S36)) × Bool) := (impl_fieldOf.f a0).bind fun bt416 => (if bt416.2.2.2 = true then (if a1 < 0 then (impl_MakePlan.j0 k a0 a1 a2 true) else (if a1 > (mn 9 bt416.2.2.1) then (impl_MakePlan.j0 k a0 a1 a2 true) else (impl_MakePlan.j0 k a0 a1 a2 (decide (a2 < 1))))) else (impl_MakePlan.j0 k a0 a1 a2 true))
theorem impl_MakePlan.mono_l : ∀ k, (∀ y0 y1 y2 y3, LeO (impl_MakePlan.j0 k y0 y1 y2 y3) (impl_MakePlan.j0 (k + 1) y0 y1 y2 y3)) ∧ (∀ y0 y1 y2 y3 y4 y5 y6, LeO (impl_MakePlan.l0 k y0 y1 y2 y3 y4 y5 y6) (impl_MakePlan.l0 (k + 1) y0 y1 y2 y3 y4 y5 y6))
 | 0 => ⟨fun _ _ _ _ r h => by simp [impl_MakePlan.j0] at h, fun _ _ _ _ _ _ _ r h => by simp [impl_MakePlan.l0] at h⟩
 | k + 1 => by
  obtain ⟨ih0, ih1⟩ := impl_MakePlan.mono_l k; refine ⟨?_, ?_⟩
  · intro y0 y1 y2 y3; unfold impl_MakePlan.j0; exact xq90
  · intro y0 y1 y2 y3 y4 y5 y6; unfold impl_MakePlan.l0; exact xq90
theorem impl_MakePlan.mono : ∀ a0 a1 a2 k, LeO (impl_MakePlan.f k a0 a1 a2) (impl_MakePlan.f (k + 1) a0 a1 a2) := by
 intro a0 a1 a2 k; obtain ⟨b0, b1⟩ := impl_MakePlan.mono_l k
 unfold impl_MakePlan.f
 exact (by repeat' (with_reducible first | exact b0 _ _ _ _ | exact b1 _ _ _ _ _ _ _ | exact impl_ranges.mono _ _ _ _ _ | exact LeO.refl _ | exact LeO.none _ | refine LeO.ite ?_ ?_ | refine LeO.bind ?_ (fun _ => ?_)))
def impl_MakePlan.T8 : Bool × List (List Nat × List Nat) := (true, [([], []), ([0], [0]), ([], []), ([], []), ([3], [3]), ([4], [4]), ([2, 5], [2, 5]), ([], []), ([6, 7], [6, 7]), ([1, 8, 8], [1, 8]), ([0, 1, 2, 3, 4, 5, 6, 7, 8, 9], []), ([10, 9, 9, 0, 1, 2, 3, 4, 5, 6, 7, 8, 9], [9, 10])])
def impl_MakePlan.B8 : List Nat := [0, 1, 0, 0, 8, 24, 60, 0, 252, 511, 1023, 2047]
theorem impl_MakePlan.tab8 : rtab .any (opsOf Try.f31 8) = impl_MakePlan.T8 := by kernel_rfl
theorem impl_MakePlan.bits8 : waitsOk impl_MakePlan.T8.2 impl_MakePlan.B8 = true := by kernel_rfl
theorem impl_MakePlan.calls (k : Nat) (a0 : Int) (a1 : Int) (a2 : Int) (r1 : Int) (r2 : Int) (r3 : List (S36)) (r4 : Bool) (w : World) (h : impl_MakePlan.f k a0 a1 a2 = some (r1, r2, r3, r4)) :
 Calls Try.prog 31 #[.int .i64 a0, .int .i64 a1, .int .i64 a2] w fun e w' => ∃ v2_ : Value, e = .returned (.tuple #[.agg #[.int .i64 r1, .int .i64 r2, v2_], .bool r4]) ∧ Kd.R k36 36 w' w.heap.size (fun _ => True) v2_ r3 ∧ Below w.heap.size w w' := by
 have B0 := Try.underlying26; have B2 := Try.underlying95; have B4 := Try.underlying36; have HB := ak (Below.refl w.heap.size w); have H : ((impl_fieldOf.f a0).bind fun U0 => (if U0.2.2.2 = true then (if a1 < 0 then (impl_MakePlan.j0 k a0 a1 a2 true) else (if a1 > (mn 9 U0.2.2.1) then (impl_MakePlan.j0 k a0 a1 a2 true) else (impl_MakePlan.j0 k a0 a1 a2 (decide (a2 < 1))))) else (impl_MakePlan.j0 k a0 a1 a2 true))) = some (r1, r2, r3, r4) := h; clear h; replace H := Option.bind_eq_some_iff.mp H; obtain ⟨⟨z0, z1, z2, z3⟩, Z0, H⟩ := H; (try dsimp only at H); have A4 := ak Z0; clear Z0; have x0 := ak H; clear H; go_enter Try.func31, Try.ntmps31
 go_upto_region 2 with (first | ((with_reducible refine gate_dst (N := 6) rfl ?_); (try (refine gate_guard (by rfl) ?_; dsimp only)); refine boxA 6 #[.int .i64 0, .int .i64 0, .slice none 0 0] 26 ?_; intro c0 hg w6 hbox hb; have C0 := ak hbox; have y0 := leA (w := w) hg; have Y0 := leA (w := w) hg; replace HB := bS hb; clear hb hbox hg) | ((with_reducible refine gate_callee (f := 84) rfl ?_); refine goB 14 Try.func84 #[.int .i64 a0] rfl ?_; (with_reducible refine (impl_fieldOf.calls a0 z0 z1 z2 z3 _ A4.out).mono ?_); rintro e w7 ⟨rfl, hb⟩; refine ⟨_, rfl, ?_⟩; replace C0 := bB C0 hb; replace HB := bS hb; (try clear hb)) | ((with_reducible refine gate_dst (N := 8) rfl ?_); (try (refine gate_guard (by rfl) ?_; dsimp only)); refine boxA 8 #[.int .i64 0, .int .i64 0, .int .i64 0] 95 ?_; intro c1 hg w8 hbox hb; have C1 := ak hbox; have y1 := leA (w := w) hg; have Y1 := leA (w := w) hg; have i0 := neL hg C0; have i1 := neG hg C0; replace C0 := bB C0 hb; replace HB := bS hb; clear hb hbox hg; have I0 := i1.out; have j3 := i0.out; obtain ⟨_, _, _, _, _, _⟩ := cel3 C1))
 (try simp only [Act.put, sa, sb, sc])
 go_cut [33] (fun d0 wc => ∃ (kq : Nat) (W0 : Bool), d0 = .bool W0 ∧ Aside0 (impl_MakePlan.j0 kq a0 a1 a2 W0 = some (r1, r2, r3, r4)) ∧ Aside0 (kq ≤ k) ∧ Aside0 (wc.heap[c0]? = some (.cells #[.int .i64 0, .int .i64 0, (.slice none 0 0)] 26 (0, 0))) ∧ Aside0 (wc.heap[c1]? = some (.cells #[.int .i64 z0, .int .i64 z1, .int .i64 z2] 95 (0, 0))) ∧ Aside0 (Below w.heap.size w wc))
 case first =>
  have H := x0.out; clear x0
  by_cases N0 : z3 = true; rotate_left
  · replace N0 := Bool.eq_false_iff.mpr N0; subst N0; have H1 : (impl_MakePlan.j0 k a0 a1 a2 true) = some (r1, r2, r3, r4) := by rw [if_neg (show ¬ (false = true) by decide)] at H; exact H
    clear H; have H := H1; clear H1; have H' := ak H; clear H; go_wp2
    go_meet
    case rel => exact ⟨_, (true), eqA, H', ⟨xq11⟩, ⟨xq18⟩, ⟨xq24⟩, ⟨belA⟩⟩
  subst N0; have H1 : (if a1 < 0 then (impl_MakePlan.j0 k a0 a1 a2 true) else (if a1 > (mn 9 z2) then (impl_MakePlan.j0 k a0 a1 a2 true) else (impl_MakePlan.j0 k a0 a1 a2 (decide (a2 < 1))))) = some (r1, r2, r3, r4) := by rw [if_pos rfl] at H; exact H
  clear H; have H := H1; clear H1
  by_cases N1 : a1 < 0
  · rw [if_pos N1] at H; have N2 := decide_eq_true N1; clear N1; (first | rw [N2] | (simp only [i64_w, i32_w]; rw [N2]) | skip)
    have H' := ak H; clear H; go_wp2
    go_meet
    case rel => exact ⟨_, (true), eqA, H', ⟨xq11⟩, ⟨xq18⟩, ⟨xq24⟩, ⟨belA⟩⟩
  rw [if_neg N1] at H; have N2 := decide_eq_false N1; clear N1; (first | rw [N2] | (simp only [i64_w, i32_w]; rw [N2]) | skip)
  obtain ⟨J0, G0⟩ : ∃ j_ : Int, (mn 9 z2) = j_ := ⟨_, rfl⟩; replace H : (if a1 > (J0) then (impl_MakePlan.j0 k a0 a1 a2 true) else (impl_MakePlan.j0 k a0 a1 a2 (decide (a2 < 1)))) = some (r1, r2, r3, r4) := by first | (rw [G0] at H; exact H) | (simp only [G0] at H ⊢; exact H)
  (try (have hji13h : J0 ≤ 9 := by (rw [← G0]; unfold mn; (repeat' split) <;> omega)))
  (try (have hji13g : J0 ≤ 64 := by omega))
  have G1 : (if z2 < 9 then z2 else 9) = J0 := G0
  by_cases N3 : a1 > (J0)
  · rw [if_pos N3] at H; have N4 : decide ((J0) < a1) = true := decide_eq_true N3; clear N3; have H' := ak H; clear H; have I1 := i1.out; have j5 := i0.out; obtain ⟨_, _, _, _, _, _⟩ := cel3 C1; go_wp2
    go_meet
    case rel => exact ⟨_, (true), eqA, H', ⟨xq11⟩, ⟨xq18⟩, ⟨xq24⟩, ⟨belA⟩⟩
  rw [if_neg N3] at H; have N4 : decide ((J0) < a1) = false := decide_eq_false N3; clear N3; have H' := ak H; clear H; have I2 := i1.out; have j6 := i0.out; obtain ⟨_, _, _, _, _, _⟩ := cel3 C1; go_wp2
  go_meet
  case rel => exact ⟨_, (decide (a2 < 1)), eqA, H', ⟨xq11⟩, ⟨xq18⟩, ⟨xq24⟩, ⟨belA⟩⟩
 case rest =>
  clear x0; obtain ⟨kq, W0, rfl, HA, t0, C0, C1, HB⟩ := hcut
  cases kq with
  | zero => exact absurd HA.out (by simp [impl_MakePlan.j0])
  | succ g0 =>
   have H := HA.out; clear HA; simp only [impl_MakePlan.j0] at H
   by_cases N5 : W0 = true
   · subst N5; have H1 : (some (0, 0, ([] : List (S36)), false)) = some (r1, r2, r3, r4) := by rw [if_pos rfl] at H; exact H
     clear H; have H := H1; clear H1; simp only [Option.some.injEq, Prod.mk.injEq] at H; obtain ⟨rfl, rfl, rfl, rfl⟩ := H; have I3 := i0.out; have j7 := i1.out; obtain ⟨_, _, _, _, _, _⟩ := cel3 C0; go_wp2
     refine bodyPost_ret (results_ct rfl _ _ c0 26 #[.int .i64 0, .int .i64 0, .slice none 0 0] (0, 0) _ rfl xq91 Try.underlying26 rfl (by kernel_rfl)) rfl ?_
     exact ⟨_, xq1, xq13, belA⟩
   replace N5 := Bool.eq_false_iff.mpr N5; subst N5; have H1 : (impl_MakePlan.l0 g0 a1 a2 a1 0 a0 a1 ([] : List (S36))) = some (r1, r2, r3, r4) := by rw [if_neg (show ¬ (false = true) by decide)] at H; exact H
   clear H; have H := H1; clear H1; have H' := ak H; clear H; go_wp2_with (first | ((with_reducible refine gate_dst (N := 10) rfl ?_); (try (refine gate_guard (by rfl) ?_; dsimp only)); refine boxA 10 #[.int .i64 0, .int .i64 0, .slice none 0 0] 26 ?_; intro ca hg k0 hbox hb; have C2 := ak hbox; have y2 := leA (w := w) hg; have Y2 := leA (w := w) hg; have i2 := neL hg C0; have i3 := neG hg C0; have i4 := neL hg C1; have i5 := neG hg C1; replace C0 := bB C0 hb; replace C1 := bB C1 hb; replace HB := bS hb; clear hb hbox hg; have I4 := i3.out; have j8 := i2.out; have I5 := i5.out; have j9 := i4.out; obtain ⟨_, _, _, _, _, _⟩ := cel3 C2))
   go_loopg [39] g0 (fun kq d1 w' => ∃ (W1 : Int) (W2 : List (S36)) (u422002 : Value), d1 = .int .i64 W1 ∧ Aside0 (impl_MakePlan.l0 kq a1 a2 a1 W1 a0 a1 W2 = some (r1, r2, r3, r4)) ∧ Aside0 (kq ≤ g0) ∧ Aside0 (Kd.R k36 36 w' w.heap.size (fun _ => True) u422002 W2) ∧ Aside0 (w'.heap[c0]? = some (.cells #[.int .i64 0, .int .i64 0, (.slice none 0 0)] 26 (0, 0))) ∧ Aside0 (w'.heap[c1]? = some (.cells #[.int .i64 z0, .int .i64 z1, .int .i64 z2] 95 (0, 0))) ∧ Aside0 (w'.heap[ca]? = some (.cells #[.int .i64 a0, .int .i64 a1, u422002] 26 (0, 0))) ∧ Aside0 (Below w.heap.size w w'))
   case atStart => exact ⟨(0), (([] : List (S36))), (.slice none 0 0), eqA, H', ⟨Nat.le_refl _⟩, ⟨xq13⟩, ⟨xq27⟩, ⟨xq47⟩, ⟨by (with_reducible repeat (first | refine blk_drewN ?_ _ | refine blk_drew ?_ | refine blk_alloc ?_ _)); refine blk_put (cs := #[.int .i64 a0, .int .i64 a1, .slice none 0 0]) ?_ 2 _ rfl; (with_reducible repeat (first | refine blk_drewN ?_ _ | refine blk_drew ?_ | refine blk_alloc ?_ _)); refine blk_put (cs := #[.int .i64 a0, .int .i64 0, .slice none 0 0]) ?_ 1 _ rfl; (with_reducible repeat (first | refine blk_drewN ?_ _ | refine blk_drew ?_ | refine blk_alloc ?_ _)); refine blk_put (cs := #[.int .i64 0, .int .i64 0, .slice none 0 0]) ?_ 0 _ rfl; (with_reducible repeat (first | refine blk_drewN ?_ _ | refine blk_drew ?_ | refine blk_alloc ?_ _)); exact C2.out⟩, ⟨belA⟩⟩
   case round =>
    clear H'; obtain ⟨W1, W2, u422002, rfl, HA, n0, f0, C0, C1, C2, HB⟩ := hrel
    cases gk with
    | zero => exact absurd HA.out (by simp [impl_MakePlan.l0])
    | succ k2 =>
     have H := HA.out; clear HA; simp only [impl_MakePlan.l0] at H
     by_cases N6 : W1 < a1; rotate_left
     · rw [if_neg N6] at H; have N7 := decide_eq_false N6; clear N6
       by_cases N8 : (W2.length : Int) > 600
       · rw [if_pos N8] at H; have N9 : decide (600 < (W2.length : Int)) = true := decide_eq_true N8; have Na : decide (600 < W2.length) = true := decide_eq_true (by omega); clear N8; simp only [Option.some.injEq, Prod.mk.injEq] at H; obtain ⟨rfl, rfl, rfl, rfl⟩ := H; have I6 := i3.out; have ja := i2.out; have I7 := i5.out; have jb := i4.out; obtain ⟨_, _, _, _, _, _⟩ := cel3 C2; obtain ⟨F0, l6, L0⟩ := Kd.R_slice f0.out; subst L0; have I8 := i0.out; have jc := i1.out; obtain ⟨_, _, _, _, _, _⟩ := cel3 C0; go_wp2
         refine bodyPost_ret (results_ct rfl _ _ c0 26 #[.int .i64 0, .int .i64 0, .slice none 0 0] (0, 0) _ rfl xq91 Try.underlying26 rfl (by kernel_rfl)) rfl ?_
         exact ⟨_, xq1, xq13, belA⟩
       rw [if_neg N8] at H; have N9 : decide (600 < (W2.length : Int)) = false := decide_eq_false N8; have Na : decide (600 < W2.length) = false := decide_eq_false (by omega); clear N8; simp only [Option.some.injEq, Prod.mk.injEq] at H; obtain ⟨rfl, rfl, rfl, rfl⟩ := H; have I9 := i3.out; have jd := i2.out; have Ia := i5.out; have je := i4.out; obtain ⟨_, _, _, _, _, _⟩ := cel3 C2; obtain ⟨F1, l7, L1⟩ := Kd.R_slice f0.out; subst L1; have Ib := i0.out; have jf := i1.out; obtain ⟨_, _, _, _, _, _⟩ := cel3 C0; go_wp2
       refine bodyPost_ret (results_ct rfl _ _ c0 26 #[.int .i64 a0, .int .i64 a1, .slice F1 W2.length l7] (0, 0) _ rfl (by (with_reducible repeat (first | refine blk_drewN ?_ _ | refine blk_drew ?_ | refine blk_alloc ?_ _)); refine blk_put (cs := #[.int .i64 a0, .int .i64 a1, .slice none 0 0]) ?_ 2 _ rfl; (with_reducible repeat (first | refine blk_drewN ?_ _ | refine blk_drew ?_ | refine blk_alloc ?_ _)); refine blk_put (cs := #[.int .i64 a0, .int .i64 0, .slice none 0 0]) ?_ 1 _ rfl; (with_reducible repeat (first | refine blk_drewN ?_ _ | refine blk_drew ?_ | refine blk_alloc ?_ _)); refine blk_put (cs := #[.int .i64 0, .int .i64 0, .slice none 0 0]) ?_ 0 _ rfl; (with_reducible repeat (first | refine blk_drewN ?_ _ | refine blk_drew ?_ | refine blk_alloc ?_ _)); exact C0.out) Try.underlying26 rfl (by kernel_rfl)) rfl ?_
       exact ⟨_, xq1, by (with_reducible repeat (first | apply Kd.R_alloc | apply Kd.R_drewN | apply Kd.R_drew)); exact Kd.R_mono (Kd.R_far (p := ⟨c0, 2, none⟩) (Kd.R_far (p := ⟨c0, 1, none⟩) (Kd.R_far (p := ⟨c0, 0, none⟩) (Kd.R_types f0.out C0.out (by decide)) (fun _ hk => hk.2) (.int .i64 a0)) (fun _ hk => hk.2) (.int .i64 a1)) (fun _ hk => hk.2) (.slice F1 W2.length l7)) (fun _ hk => trivial), belA⟩
     rw [if_pos N6] at H; have N7 := decide_eq_true N6; clear N6; obtain ⟨J1, G2⟩ : ∃ j_ : Int, (wrap64 (a1 - 1)) = j_ := ⟨_, rfl⟩; replace H : (if 0 ≤ (J1) then ((impl_ranges.f k2 W1 0 (shl .i64 1 (J1)) a2).bind fun z4 => (if W2.length + z4.length < 5864062014805 then (impl_MakePlan.l0 k2 a1 a2 a1 (wrap64 (W1 + 1)) a0 a1 (W2 ++ z4)) else (none))) else (none)) = some (r1, r2, r3, r4) := by first | (rw [G2] at H; exact H) | (simp only [G2] at H ⊢; exact H)
     have hji27w : (IntKind.i64.wrap (a1 - 1)) = J1 := (i64_w _).trans G2
     by_cases Nb : 0 ≤ (J1); rotate_left
     · rw [if_neg Nb] at H; exact absurd H (by simp)
     rw [if_pos Nb] at H; have Nc := eq_true Nb; have Nd : decide (0 ≤ (J1)) = true := decide_eq_true Nb; clear Nb; obtain ⟨J2, G3⟩ : ∃ j_ : Int, (shl .i64 1 (J1)) = j_ := ⟨_, rfl⟩; replace H : ((impl_ranges.f k2 W1 0 (J2) a2).bind fun z4 => (if W2.length + z4.length < 5864062014805 then (impl_MakePlan.l0 k2 a1 a2 a1 (wrap64 (W1 + 1)) a0 a1 (W2 ++ z4)) else (none))) = some (r1, r2, r3, r4) := by first | (rw [G3] at H; exact H) | (simp only [G3] at H ⊢; exact H)
     have G4 : (IntKind.i64.wrap (1 * 2 ^ min (J1).toNat 64)) = J2 := G3; have hji29z : (J1) ≤ 64 → (IntKind.i64.wrap (1 * 2 ^ (J1).toNat)) = J2 := shl_small G3; have hji29u : (IntKind.i64.wrap (2 ^ min (J1).toNat 64)) = J2 := by have h_ := G4; rw [Int.one_mul] at h_; exact h_
     have hji29v : (J1) ≤ 64 → (IntKind.i64.wrap (2 ^ (J1).toNat)) = J2 := fun hle_ => by have h_ := hji29z hle_; rw [Int.one_mul] at h_; exact h_
     have hji29y : (wrap64 (1 * 2 ^ min (J1).toNat 64)) = J2 := (i64_w _).symm.trans G4; have hji29x : (J1) ≤ 64 → (wrap64 (1 * 2 ^ (J1).toNat)) = J2 := fun h_ => (i64_w _).symm.trans (hji29z h_)
     replace H := Option.bind_eq_some_iff.mp H; obtain ⟨z4, Z1, H⟩ := H; (try dsimp only at H); have Z2 := ak Z1; clear Z1
     by_cases Ne : W2.length + z4.length < 5864062014805; rotate_left
     · rw [if_neg Ne] at H; exact absurd H (by simp)
     rw [if_pos Ne] at H; have cb := ak Ne; clear Ne; obtain ⟨K0, hyq⟩ : ∃ y_ : List (S36), y_ = (W2 ++ z4) := ⟨_, rfl⟩; replace H : (impl_MakePlan.l0 k2 a1 a2 a1 (wrap64 (W1 + 1)) a0 a1 K0) = some (r1, r2, r3, r4) := by first | (rw [hyq]; with_reducible exact H) | (have e0 := (Option.bind_some _ _).symm.trans H; rw [hyq]; with_reducible exact e0) | (have e0 := (Option.bind_some _ _).symm.trans H; with_reducible exact e0) | with_reducible exact H | (rw [hyq]; exact H) | exact H
     have E0 := ak hyq; clear hyq; have H' := ak H; clear H; try go_wp2
     replace f0 := ak (Kd.R_drew f0.out); replace C0 := ak (blk_drew C0.out); replace C1 := ak (blk_drew C1.out); replace C2 := ak (blk_drew C2.out); replace HB := ak (below_drew1 HB.out); refine start_ (n := 12) (S := fun w' => w'.cell? ⟨ca, 0, none⟩ = some (.int .i64 a0) ∧ w'.cell? ⟨ca, 1, none⟩ = some (.int .i64 a1) ∧ w'.cell? ⟨ca, 2, none⟩ = some (u422002)) (ds := [11]) _ (by kernel_rfl) rfl rfl ⟨bc C2 0, bc C2 1, bc C2 2⟩ (fun hHeld => ?_); refine with_tabW impl_MakePlan.tab8 impl_MakePlan.bits8 (fun HT_ HW_ => ?_)
     generalize wr.drew = k1 at f0 C0 C1 C2 HB hHeld ⊢
     refine pR 0 42 (ba 12 1) ?_; refine pR 2 44 (ba 12 5) ?_; refine pR 3 45 (ba 12 13) ?_; refine pR 4 46 (ba 12 29) ?_; refine pR 5 47 (ba 12 61) ?_; refine pR 6 48 (ba 12 125) ?_; refine pR 7 49 (ba 12 253) ?_; refine tR3 1 43 (ba 12 255) ?_
     refine one_ (i := 8) (N := some 50) (ba 12 511) rfl rfl (one_of HT_.out (by kernel_rfl)) (by decide) (fun K hK => ?_)
     refine goes_ Try.func85 (by kernel_rfl) rfl #[.agg #[.int .i64 W1, .int .i64 0, .int .i64 J2], .int .i64 a2] (by rfl) rfl rfl xq92 ?_
     with_reducible refine (impl_ranges.calls k2 W1 0 J2 a2 z4 _ Z2.out).mono ?_
     rintro e k3 ⟨d2, rfl, D0, hb⟩
     refine ⟨_, rfl, ?_⟩
     have f1 := rL (Kd.R_new' D0 (Kd.R_lt (rF f0))); replace f0 := ak (Kd.R_elder' (rF f0) (Kd.R_base D0) hb); replace C0 := bB C0 hb; replace C1 := bB C1 hb; replace C2 := bB C2 hb; replace HB := bS hb; (try clear hb D0); obtain ⟨F2, l8, L2⟩ := Kd.R_slice f1.out; (first | subst L2 | (injection L2 with C3 C4 C5; have C6 := C3.symm; have C7 := C5.symm; clear C3 C4 C5; subst C6; subst C7))
     refine hK.out _ _ ⟨bc C2 0, bc C2 1, bc C2 2⟩ (fun hHeld => ?_)
     clear hK K; refine nR 50 ?_
     refine one_ (i := 9) (N := some 51) (ba 12 1023) rfl rfl (one_of HT_.out (by kernel_rfl)) (by decide) (fun K hK => ?_)
     refine Kd.R_append_rows_step k36 (w0 := w) w.heap.size (by rfl) (.tmp 43) (.tmp 50) 24 36 (.agg #[(.int .i64 0), (.int .i64 0), (.int .i64 0)]) 24 rfl Try.underlying24 info36 rfl (by decide) (by omega) u422002 W2 z4 _ _ _ (fun k_ => some k_ ≠ (.slice F2 z4.length l8 : Value).ownBlock) (fun _ => False) rfl rfl ?aO ?aR (fun _ _ h => h) (fun _ h => h.elim) ?aF ?aB ?aS ?aL ?_
     (case aR => repeat (first | exact (Kd.R_reads' f1.out).2.2 | (with_reducible refine Kd.C_alloc ?_ _) | (with_reducible refine Kd.C_drewN ?_ _) | (with_reducible refine Kd.C_drew ?_)))
     (case aB => exact belA)
     (case aF => exact xq49)
     (case aO => exact (rE (Kd.R_mono f0.out (fun _ hk => hk.2))))
     (case aS => exact (below_size belA))
     (case aL => have := cb.out; omega)
     intro d3 k4 ho hb hg hat; rw [← E0.out] at ho; have x1 := ak (blk_grown (g := c0) (o := .cells #[.int .i64 0, .int .i64 0, .slice none 0 0] 26 (0, 0)) blkA hg (Kd.R_ne f0.out C0.out (by decide))); have x2 := ak (blk_grown (g := c1) (o := .cells #[.int .i64 z0, .int .i64 z1, .int .i64 z2] 95 (0, 0)) blkA hg (Kd.R_ne f0.out C1.out (by decide))); have x3 := ak (blk_grown (g := ca) (o := .cells #[.int .i64 a0, .int .i64 a1, u422002] 26 (0, 0)) blkA hg (Kd.R_ne f0.out C2.out (by decide))); have x4 := ak (Kd.R_after (ok := (fun _ => True)) (rF f1) hg hat); have x5 := ak hb; have x6 := ak ho; clear C0; clear C1; clear C2; clear f1; clear HB; clear f0; have C0 := x1; have C1 := x2; have C2 := x3; have f1 := x4; have HB := x5; have f2 := x6; clear x1 x2 x3 x4 x5 x6; clear ho hb hg hat; obtain ⟨F3, l9, L3⟩ := Kd.R_slice f2.out; (first | subst L3 | (injection L3 with C3 C4 C5; have C6 := C3.symm; have C7 := C5.symm; clear C3 C4 C5; subst C6; subst C7))
     refine hK.out _ _ ⟨bc C2 0, bc C2 1, bc C2 2⟩ (fun hHeld => ?_)
     clear hK K; refine nR 51 ?_; refine pR 10 52 (ba 12 2047) ?_
     refine last_ (i := 11) (N := none) (ba 12 4095) rfl rfl (one_of HT_.out (by kernel_rfl)) (by decide) (fun K hK => ?_)
     have y3 : k4.cell? ⟨ca, 2, none⟩ = some (u422002) := bc C2 2; have Y3 := blk_frozen C2.out 2; have v0 := i2.out; have v1 := i4.out; have V0 := i3.out; have V1 := i5.out; refine skip_ (w1 := ?_) (by rfl) rfl ?_ ?_
     rotate_left
     · go_simp
       rfl
     refine hK.out _ _ ?_
     clear hK K; refine done_ (done_of HT_.out (by kernel_rfl)) ?_
     try go_wp2
     go_roundg k2
     case measure => have := t0.out; have := n0.out; omega
     case rel => exact ⟨(wrap64 (W1 + 1)), (K0), (.slice F3 K0.length l9), eqA, H', ⟨xq26⟩, ⟨rE (Kd.R_mono (Kd.R_far (p := ⟨ca, 2, none⟩) (Kd.R_types f2.out C2.out (by decide)) (fun _ hk => hk.2) (.slice F3 K0.length l9)) (fun _ hk => trivial))⟩, ⟨xq35⟩, ⟨xq46⟩, ⟨by (with_reducible repeat (first | refine blk_drewN ?_ _ | refine blk_drew ?_ | refine blk_alloc ?_ _)); refine blk_put (cs := #[.int .i64 a0, .int .i64 a1, u422002]) ?_ 2 _ rfl; (with_reducible repeat (first | refine blk_drewN ?_ _ | refine blk_drew ?_ | refine blk_alloc ?_ _)); exact C2.out⟩, ⟨belA⟩⟩

end Go.Proofs.Ytbojabmpcfclhaa.PFnPlanTurned

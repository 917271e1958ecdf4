-- Written by a program of this session (the print of the kit with contracts of this session's own added)
import Derived.Test.YtbojabmpcfclhaaZFPTx8
set_option maxHeartbeats 8000000
set_option maxRecDepth 100000
namespace Go.Proofs.Ytbojabmpcfclhaa.PFnPlanTurned
open Go.RowKit Go.Proofs.YtbojabmpcfclhaaW.PrintWords Go.Proofs.YtbojabmpcfclhaaW.PrintLast Go.Proofs.YtbojabmpcfclhaaW.PrintMore Go.Proofs.YtbojabmpcfclhaaW.PrintPack Go.Proofs.YtbojabmpcfclhaaW.PrintPack
set_option linter.unusedVariables false
set_option linter.unusedSimpArgs false

mutual
def spec_l09Cut.l0 : Nat → List (S36) → Int → Int → Int → Int → Int → Option ((List (S36)))
 | 0, _, _, _, _, _, _ => none
 | k + 1, x0, x2, x7, x429000, x429001, x429002 => if x7 < x429002 then (spec_l09Cut.j1 k x0 x2 x7 (decide ((x0.length : Int) ≤ 600)) x429000 x429001 x429002) else (spec_l09Cut.j1 k x0 x2 x7 false x429000 x429001 x429002)
def spec_l09Cut.j1 : Nat → List (S36) → Int → Int → Bool → Int → Int → Int → Option ((List (S36)))
 | 0, _, _, _, _, _, _, _ => none
 | k + 1, x0, x2, x7, x19, x429000, x429001, x429002 => if x19 = true then (if x2 < (wrap64 (x429002 - x7)) then (if x0.length < 5864062014805 then (spec_l09Cut.l0 k (x0 ++ [(⟨x429000, x7, wrap64 (x7 + x2)⟩ : S36)]) x2 (wrap64 (x7 + x2)) x429000 x429001 x429002) else (none)) else (if x0.length < 5864062014805 then (spec_l09Cut.l0 k (x0 ++ [(⟨x429000, x7, x429002⟩ : S36)]) x2 x429002 x429000 x429001 x429002) else (none))) else (some x0)
end
def spec_l09Cut.f (k : Nat) (l0 : List (S36)) (a1_0 : Int) (a1_1 : Int) (a1_2 : Int) (a2 : Int) : Option ((List (S36))) := spec_l09Cut.l0 k l0 a2 a1_1 a1_0 a1_1 a1_2
theorem spec_l09Cut.mono_l : ∀ k, (∀ y0 y1 y2 y3 y4 y5, LeO (spec_l09Cut.l0 k y0 y1 y2 y3 y4 y5) (spec_l09Cut.l0 (k + 1) y0 y1 y2 y3 y4 y5)) ∧ (∀ y0 y1 y2 y3 y4 y5 y6, LeO (spec_l09Cut.j1 k y0 y1 y2 y3 y4 y5 y6) (spec_l09Cut.j1 (k + 1) y0 y1 y2 y3 y4 y5 y6))
 | 0 => ⟨fun _ _ _ _ _ _ r h => by simp [spec_l09Cut.l0] at h, fun _ _ _ _ _ _ _ r h => by simp [spec_l09Cut.j1] at h⟩
 | k + 1 => by
  obtain ⟨ih0, ih1⟩ := spec_l09Cut.mono_l k; refine ⟨?_, ?_⟩
  · intro y0 y1 y2 y3 y4 y5; unfold spec_l09Cut.l0; exact xq93
  · intro y0 y1 y2 y3 y4 y5 y6; unfold spec_l09Cut.j1; exact xq93
theorem spec_l09Cut.mono : ∀ a0 a1 a2 a3 a4 k, LeO (spec_l09Cut.f k a0 a1 a2 a3 a4) (spec_l09Cut.f (k + 1) a0 a1 a2 a3 a4) := by
 intro a0 a1 a2 a3 a4 k; obtain ⟨b0, b1⟩ := spec_l09Cut.mono_l k
 unfold spec_l09Cut.f
 exact (by repeat' (with_reducible first | exact b0 _ _ _ _ _ _ | exact b1 _ _ _ _ _ _ _ | exact LeO.refl _ | exact LeO.none _ | refine LeO.ite ?_ ?_ | refine LeO.bind ?_ (fun _ => ?_)))
theorem spec_l09Cut.calls (k : Nat) (P0_ : Nat → Prop) (u9000_ : Value) (l0 : List (S36)) (a1_0 : Int) (a1_1 : Int) (a1_2 : Int) (a2 : Int) (r : List (S36)) (w0 w : World) (hB : Below w0.heap.size w0 w) (ho0 : Kd.R k36 36 w w0.heap.size P0_ u9000_ l0) (h : spec_l09Cut.f k l0 a1_0 a1_1 a1_2 a2 = some r) :
 Calls Try.prog 88 #[u9000_, .agg #[.int .i64 a1_0, .int .i64 a1_1, .int .i64 a1_2], .int .i64 a2] w fun e w' => ∃ v0_ : Value, e = .returned (v0_) ∧ Kd.R k36 36 w' w0.heap.size (fun k_ => (P0_ k_ ∨ w.heap.size ≤ k_)) v0_ r ∧ Below w0.heap.size w0 w' ∧ Kept w w' (fun k_ => P0_ k_) := by
 have B0 := Try.underlying36; have f0 := ak (show Kd.R k36 36 w w0.heap.size (fun k_ => (P0_ k_ ∨ w.heap.size ≤ k_)) u9000_ l0 from Kd.R_mono ho0 (fun k_ hk => (.inl hk))); have HK := ak (Kept.refl w (fun k_ => P0_ k_)); have w3 := ak hB.size; have HB := ak hB; clear hB; have H : (spec_l09Cut.l0 k l0 a2 a1_1 a1_0 a1_1 a1_2) = some r := h; clear h; have H' := ak H; clear H; go_enter Try.func88, Try.ntmps88
 go_wp2_with (first | ((with_reducible refine gate_dst (N := 4) rfl ?_); (try (refine gate_guard (by rfl) ?_; dsimp only)); refine boxA 4 #[.int .i64 a1_0, .int .i64 a1_1, .int .i64 a1_2] 36 ?_; intro c0 hg w4 hbox hb; have C0 := ak hbox; have y0 := ak ((by rw [hg]; exact (by first | exact HK.out.1 | exact (show Kept w _ (fun k_ => P0_ k_) from by repeat (first | (with_reducible first | exact HK.out | apply Kept.alloc | apply Kept.drewN | apply Kept.drew) | exact HK.out)).1) : w.heap.size ≤ c0)); have Y0 := ak ((by rw [hg]; exact (below_size belA) : w0.heap.size ≤ c0)); replace f0 := ak (Kd.R_below (Kd.R_elderB (rF f0) c0 (Nat.le_of_eq hg.symm)) hb); replace HK := ak (Kept.below (S := (fun k_ => P0_ k_)) kdA hb); replace HB := bS hb; clear hb hbox hg; obtain ⟨_, _, _, _, _, _⟩ := cel3 C0))
 go_loopg [0, 7] k (fun kq v0 v7 w' => ∃ (W0 : List (S36)) (W1 : Int), v7 = .int .i64 W1 ∧ Aside0 (spec_l09Cut.l0 kq W0 a2 W1 a1_0 a1_1 a1_2 = some r) ∧ Aside0 (kq ≤ k) ∧ Aside0 (Kd.R k36 36 w' w0.heap.size (fun k_ => (P0_ k_ ∨ w.heap.size ≤ k_) ∧ k_ ≠ c0) v0 W0) ∧ Aside0 (w'.heap[c0]? = some (.cells #[.int .i64 a1_0, .int .i64 a1_1, .int .i64 a1_2] 36 (0, 0))) ∧ Aside0 (Kept w w' (fun k_ => P0_ k_)) ∧ Aside0 (Below w0.heap.size w0 w'))
 case atStart => exact ⟨(l0), (a1_1), eqA, H', ⟨Nat.le_refl _⟩, ⟨rA f0⟩, ⟨blkA⟩, ⟨xq22⟩, ⟨belA⟩⟩
 case round =>
  clear H'; obtain ⟨W0, W1, rfl, HA, n0, f1, C0, HK, HB⟩ := hrel
  cases gk with
  | zero => exact absurd HA.out (by simp [spec_l09Cut.l0])
  | succ k1 =>
   have H := HA.out; clear HA; simp only [spec_l09Cut.l0] at H; have x0 := ak H; clear H; go_upto_region 2 with (fail)
   go_cut [19] (fun d0 wc => ∃ (kq : Nat) (W2 : Bool), d0 = .bool W2 ∧ Aside0 (spec_l09Cut.j1 kq W0 a2 W1 W2 a1_0 a1_1 a1_2 = some r) ∧ Aside0 (kq ≤ k1) ∧ Aside0 (Kd.R k36 36 wc w0.heap.size (fun k_ => (P0_ k_ ∨ w.heap.size ≤ k_) ∧ k_ ≠ c0) u0 W0) ∧ Aside0 (wc.heap[c0]? = some (.cells #[.int .i64 a1_0, .int .i64 a1_1, .int .i64 a1_2] 36 (0, 0))) ∧ Aside0 (Kept w wc (fun k_ => P0_ k_)) ∧ Aside0 (Below w0.heap.size w0 wc))
   case first =>
    have H := x0.out; clear x0
    by_cases c7 : W1 < a1_2; rotate_left
    · rw [if_neg c7] at H; have N0 := decide_eq_false c7; clear c7; (first | rw [N0] | (simp only [i64_w, i32_w]; rw [N0]) | skip)
      have H' := ak H; clear H; obtain ⟨_, _, _, _, _, _⟩ := cel3 C0; go_wp2
      go_meet
      case rel => exact ⟨_, (false), eqA, H', ⟨by have := n0.out; first | omega | exact Nat.le_refl _⟩, ⟨rA f1⟩, ⟨blkA⟩, ⟨xq22⟩, ⟨belA⟩⟩
    rw [if_pos c7] at H; have N0 := decide_eq_true c7; clear c7; (first | rw [N0] | (simp only [i64_w, i32_w]; rw [N0]) | skip)
    have H' := ak H; clear H; obtain ⟨_, _, _, _, _, _⟩ := cel3 C0; obtain ⟨F0, l6, L0⟩ := Kd.R_slice f1.out; subst L0; go_wp2
    go_meet
    case rel => exact ⟨_, (decide ((W0.length : Int) ≤ 600)), eqA, H', ⟨by have := n0.out; first | omega | exact Nat.le_refl _⟩, ⟨rA f1⟩, ⟨blkA⟩, ⟨xq22⟩, ⟨belA⟩⟩
   case rest =>
    clear x0; obtain ⟨kq, W2, rfl, HA, t0, f1, C0, HK, HB⟩ := hcut
    cases kq with
    | zero => exact absurd HA.out (by simp [spec_l09Cut.j1])
    | succ g0 =>
     have H := HA.out; clear HA; simp only [spec_l09Cut.j1] at H
     by_cases N1 : W2 = true; rotate_left
     · replace N1 := Bool.eq_false_iff.mpr N1; subst N1; have H1 : (some W0) = some r := by rw [if_neg (show ¬ (false = true) by decide)] at H; exact H
       clear H; have H := H1; clear H1; obtain rfl := Option.some.inj H; go_wp2
       go_ret
       exact ⟨_, xq1, by (with_reducible repeat (first | apply Kd.R_alloc | apply Kd.R_drewN | apply Kd.R_drew)); exact Kd.R_mono f1.out (fun _ hk => hk.1), belA, xq22⟩
     subst N1; have H1 : (if a2 < (wrap64 (a1_2 - W1)) then (if W0.length < 5864062014805 then (spec_l09Cut.l0 g0 (W0 ++ [(⟨a1_0, W1, wrap64 (W1 + a2)⟩ : S36)]) a2 (wrap64 (W1 + a2)) a1_0 a1_1 a1_2) else (none)) else (if W0.length < 5864062014805 then (spec_l09Cut.l0 g0 (W0 ++ [(⟨a1_0, W1, a1_2⟩ : S36)]) a2 a1_2 a1_0 a1_1 a1_2) else (none))) = some r := by rw [if_pos rfl] at H; exact H
     clear H; have H := H1; clear H1
     by_cases N2 : a2 < (wrap64 (a1_2 - W1)); rotate_left
     · rw [if_neg N2] at H; have N3 := decide_eq_false N2; have N4 : decide (a2 < (IntKind.i64.wrap (a1_2 - W1))) = false := by simp only [i64_w]; exact N3
       clear N2
       by_cases N5 : W0.length < 5864062014805; rotate_left
       · rw [if_neg N5] at H; exact absurd H (by simp)
       rw [if_pos N5] at H; have c1 := ak N5; clear N5; obtain ⟨K0, hyq⟩ : ∃ y_ : List (S36), y_ = (W0 ++ [(⟨a1_0, W1, a1_2⟩ : S36)]) := ⟨_, rfl⟩; replace H : (spec_l09Cut.l0 g0 K0 a2 a1_2 a1_0 a1_1 a1_2) = some r := by first | (rw [hyq]; with_reducible exact H) | (have e0 := (Option.bind_some _ _).symm.trans H; rw [hyq]; with_reducible exact e0) | (have e0 := (Option.bind_some _ _).symm.trans H; with_reducible exact e0) | with_reducible exact H | (rw [hyq]; exact H) | exact H
       have E0 := ak hyq; clear hyq; have H' := ak H; clear H; obtain ⟨_, _, _, _, _, _⟩ := cel3 C0; go_wp2_with (first | ((with_reducible refine gate_builtin (b := .append) (xs := #[.tmp 31, .tmp 37]) rfl ?_); (try (refine gate_guard (by rfl) ?_; dsimp only)); at_builtin; refine Kd.R_append k36 (w0 := w0) w0.heap.size rfl (.tmp 31) (.tmp 37) 24 36 (.agg #[(.int .i64 0), (.int .i64 0), (.int .i64 0)]) 24 rfl Try.underlying24 info36 rfl (by decide) (by omega) u0 W0 (⟨a1_0, W1, a1_2⟩ : S36) [.int .i64 a1_0, .int .i64 W1, .int .i64 a1_2] (fun k_ => (P0_ k_ ∨ w.heap.size ≤ k_) ∧ k_ ≠ c0) (fun _ => False) rfl rfl ?aP (fun _ hk => hk.elim) ?aF ?aO ?aB ?aS ?aL ?_; (case aP => exact k36_mkM _ _ _ (⟨a1_0, W1, a1_2⟩ : S36)); (case aB => exact belA); (case aF => exact xq96); (case aO => exact (rF f1)); (case aS => exact (below_size belA)); (case aL => exact xq36); intro d1 k0 ho hb hg hat; rw [← E0.out] at ho; have f2 := ak ho; replace C0 := ak (blk_grown (g := c0) (o := .cells #[.int .i64 a1_0, .int .i64 a1_1, .int .i64 a1_2] 36 (0, 0)) blkA hg (Kd.R_away f1.out (fun _ hk => hk.2))); replace HB := ak hb; replace HK := ak (Kept.of_grown (S := (fun k_ => P0_ k_)) hg xq22 (fun k_ e_ => (f1.out.1 k_ e_).1)); clear f1; clear ho hb hg hat))
       go_roundg g0
       case measure => have := n0.out; have := t0.out; omega
       case rel => exact ⟨(K0), (a1_2), eqA, H', ⟨by have := n0.out; have := t0.out; omega⟩, ⟨rA f2⟩, ⟨blkA⟩, ⟨xq22⟩, ⟨belA⟩⟩
     rw [if_pos N2] at H; have N3 := decide_eq_true N2; have N4 : decide (a2 < (IntKind.i64.wrap (a1_2 - W1))) = true := by simp only [i64_w]; exact N3
     clear N2
     by_cases N6 : W0.length < 5864062014805; rotate_left
     · rw [if_neg N6] at H; exact absurd H (by simp)
     rw [if_pos N6] at H; have ca := ak N6; clear N6; obtain ⟨K1, hyq⟩ : ∃ y_ : List (S36), y_ = (W0 ++ [(⟨a1_0, W1, wrap64 (W1 + a2)⟩ : S36)]) := ⟨_, rfl⟩; replace H : (spec_l09Cut.l0 g0 K1 a2 (wrap64 (W1 + a2)) a1_0 a1_1 a1_2) = some r := by first | (rw [hyq]; with_reducible exact H) | (have e0 := (Option.bind_some _ _).symm.trans H; rw [hyq]; with_reducible exact e0) | (have e0 := (Option.bind_some _ _).symm.trans H; with_reducible exact e0) | with_reducible exact H | (rw [hyq]; exact H) | exact H
     have E1 := ak hyq; clear hyq; have H' := ak H; clear H; obtain ⟨_, _, _, _, _, _⟩ := cel3 C0; go_wp2_with (first | ((with_reducible refine gate_builtin (b := .append) (xs := #[.tmp 31, .tmp 37]) rfl ?_); (try (refine gate_guard (by rfl) ?_; dsimp only)); at_builtin; refine Kd.R_append k36 (w0 := w0) w0.heap.size rfl (.tmp 31) (.tmp 37) 24 36 (.agg #[(.int .i64 0), (.int .i64 0), (.int .i64 0)]) 24 rfl Try.underlying24 info36 rfl (by decide) (by omega) u0 W0 (⟨a1_0, W1, wrap64 (W1 + a2)⟩ : S36) [.int .i64 a1_0, .int .i64 W1, .int .i64 (wrap64 (W1 + a2))] (fun k_ => (P0_ k_ ∨ w.heap.size ≤ k_) ∧ k_ ≠ c0) (fun _ => False) rfl rfl ?aP (fun _ hk => hk.elim) ?aF ?aO ?aB ?aS ?aL ?_; (case aP => exact k36_mkM _ _ _ (⟨a1_0, W1, wrap64 (W1 + a2)⟩ : S36)); (case aB => exact belA); (case aF => exact xq96); (case aO => exact (rF f1)); (case aS => exact (below_size belA)); (case aL => exact xq28); intro d2 k2 ho hb hg hat; rw [← E1.out] at ho; have f3 := ak ho; replace C0 := ak (blk_grown (g := c0) (o := .cells #[.int .i64 a1_0, .int .i64 a1_1, .int .i64 a1_2] 36 (0, 0)) blkA hg (Kd.R_away f1.out (fun _ hk => hk.2))); replace HB := ak hb; replace HK := ak (Kept.of_grown (S := (fun k_ => P0_ k_)) hg xq22 (fun k_ e_ => (f1.out.1 k_ e_).1)); clear f1; clear ho hb hg hat))
     go_roundg g0
     case measure => have := n0.out; have := t0.out; omega
     case rel => exact ⟨(K1), (wrap64 (W1 + a2)), eqA, H', ⟨by have := n0.out; have := t0.out; omega⟩, ⟨rA f3⟩, ⟨blkA⟩, ⟨xq22⟩, ⟨belA⟩⟩

mutual
def spec_SplitPlan.j0 : Nat → Int → Bool → Int → Int → List (S36) → Option (Int × Int × (List (S36)) × Bool)
 | 0, _, _, _, _, _ => none
 | k + 1, x1, x14, x436000, x436001, x436002 => if x14 = true then (some (0, 0, ([] : List (S36)), false)) else (spec_SplitPlan.l0 k x1 (([] : List (S36))) 0 x436000 x436001 x436002)
def spec_SplitPlan.l0 : Nat → Int → List (S36) → Int → Int → Int → List (S36) → Option (Int × Int × (List (S36)) × Bool)
 | 0, _, _, _, _, _, _ => none
 | k + 1, x1, x6, x7, x436000, x436001, x436002 => if x7 < (x436002.length : Int) then (if 0 ≤ x7 then ((spec_l09Cut.f k x6 ((rd_T36 x436002 x7).f0) ((rd_T36 x436002 x7).f1) ((rd_T36 x436002 x7).f2) x1).bind fun t442 => (spec_SplitPlan.l0 k x1 t442 (wrap64 (x7 + 1)) x436000 x436001 x436002)) else (none)) else (if (x6.length : Int) > 600 then (some (0, 0, ([] : List (S36)), false)) else (some (x436000, x436001, x6, true)))
end
def spec_SplitPlan.f (k : Nat) (a0_0 : Int) (a0_1 : Int) (l0_2 : List (S36)) (a1 : Int) : Option (Int × Int × (List (S36)) × Bool) := (spec_PlanOk.f k a0_0 a0_1 l0_2).bind fun t437 => (if t437 = true then (spec_SplitPlan.j0 k a1 (decide (a1 < 1)) a0_0 a0_1 l0_2) else (spec_SplitPlan.j0 k a1 true a0_0 a0_1 l0_2))
theorem spec_SplitPlan.mono_l : ∀ k, (∀ y0 y1 y2 y3 y4, LeO (spec_SplitPlan.j0 k y0 y1 y2 y3 y4) (spec_SplitPlan.j0 (k + 1) y0 y1 y2 y3 y4)) ∧ (∀ y0 y1 y2 y3 y4 y5, LeO (spec_SplitPlan.l0 k y0 y1 y2 y3 y4 y5) (spec_SplitPlan.l0 (k + 1) y0 y1 y2 y3 y4 y5))
 | 0 => ⟨fun _ _ _ _ _ r h => by simp [spec_SplitPlan.j0] at h, fun _ _ _ _ _ _ r h => by simp [spec_SplitPlan.l0] at h⟩
 | k + 1 => by
  obtain ⟨ih0, ih1⟩ := spec_SplitPlan.mono_l k; refine ⟨?_, ?_⟩
  · intro y0 y1 y2 y3 y4; unfold spec_SplitPlan.j0; exact xq95
  · intro y0 y1 y2 y3 y4 y5; unfold spec_SplitPlan.l0; exact xq95
theorem spec_SplitPlan.mono : ∀ a0 a1 a2 a3 k, LeO (spec_SplitPlan.f k a0 a1 a2 a3) (spec_SplitPlan.f (k + 1) a0 a1 a2 a3) := by
 intro a0 a1 a2 a3 k; obtain ⟨b0, b1⟩ := spec_SplitPlan.mono_l k
 unfold spec_SplitPlan.f
 exact (by repeat' (with_reducible first | exact b0 _ _ _ _ _ | exact b1 _ _ _ _ _ _ | exact spec_PlanOk.mono _ _ _ _ | exact spec_l09Cut.mono _ _ _ _ _ _ | exact LeO.refl _ | exact LeO.none _ | refine LeO.ite ?_ ?_ | refine LeO.bind ?_ (fun _ => ?_)))
theorem spec_SplitPlan.calls (k : Nat) (a0_0 : Int) (a0_1 : Int) (A0_2 : Option Addr) (c0_2 : Nat) (l0_2 : List (S36)) (a1 : Int) (r1 : Int) (r2 : Int) (r3 : List (S36)) (r4 : Bool) (w : World) (hr0_2 : Kd.C k36 w A0_2 l0_2.length l0_2) (hc0_2 : l0_2.length ≤ c0_2) (h : spec_SplitPlan.f k a0_0 a0_1 l0_2 a1 = some (r1, r2, r3, r4)) :
 Calls Try.prog 33 #[.agg #[.int .i64 a0_0, .int .i64 a0_1, .slice A0_2 l0_2.length c0_2], .int .i64 a1] w fun e w' => ∃ v2_ : Value, e = .returned (.tuple #[.agg #[.int .i64 r1, .int .i64 r2, v2_], .bool r4]) ∧ Kd.R k36 36 w' w.heap.size (fun _ => True) v2_ r3 ∧ Below w.heap.size w w' := by
 have B0 := Try.underlying26; have B2 := Try.underlying36; have g0 := ak hr0_2; have x0 := ak hc0_2; clear hr0_2 hc0_2; have HB := ak (Below.refl w.heap.size w); have H : ((spec_PlanOk.f k a0_0 a0_1 l0_2).bind fun z0 => (if z0 = true then (spec_SplitPlan.j0 k a1 (decide (a1 < 1)) a0_0 a0_1 l0_2) else (spec_SplitPlan.j0 k a1 true a0_0 a0_1 l0_2))) = some (r1, r2, r3, r4) := h; clear h; have x1 := ak H; clear H; go_enter Try.func33, Try.ntmps33
 go_upto_region 1 with (first | ((with_reducible refine gate_dst (N := 2) rfl ?_); refine boxA 2 #[.int .i64 a0_0, .int .i64 a0_1, .slice A0_2 l0_2.length c0_2] 26 ?_; intro c0 hg w4 hbox hb; have C0 := ak hbox; have y0 := leA (w := w) hg; have Y0 := leA (w := w) hg; replace HB := bS hb; clear hb hbox hg) | ((with_reducible refine gate_dst (N := 4) rfl ?_); refine boxA 4 #[.int .i64 0, .int .i64 0, .slice none 0 0] 26 ?_; intro c1 hg w5 hbox hb; have C1 := ak hbox; have y1 := leA (w := w) hg; have Y1 := leA (w := w) hg; have i0 := neL hg C0; have i1 := neG hg C0; replace C0 := bB C0 hb; replace HB := bS hb; clear hb hbox hg))
 (try simp only [Act.put, sa, sb, sc])
 go_cut [14] (fun d0 wc => ∃ (kq : Nat) (W0 : Bool), d0 = .bool W0 ∧ Aside0 (spec_SplitPlan.j0 kq a1 W0 a0_0 a0_1 l0_2 = some (r1, r2, r3, r4)) ∧ Aside0 (kq ≤ k) ∧ Aside0 (wc.heap[c0]? = some (.cells #[.int .i64 a0_0, .int .i64 a0_1, (.slice A0_2 l0_2.length c0_2)] 26 (0, 0))) ∧ Aside0 (wc.heap[c1]? = some (.cells #[.int .i64 0, .int .i64 0, (.slice none 0 0)] 26 (0, 0))) ∧ Aside0 (Below w.heap.size w wc))
 case first =>
  have H := x1.out; clear x1; replace H := Option.bind_eq_some_iff.mp H; obtain ⟨z0, Z0, H⟩ := H; (try dsimp only at H); have A6 := ak Z0; clear Z0
  by_cases c7 : z0 = true
  · subst c7; have H1 : (spec_SplitPlan.j0 k a1 (decide (a1 < 1)) a0_0 a0_1 l0_2) = some (r1, r2, r3, r4) := by rw [if_pos rfl] at H; exact H
    clear H; have H := H1; clear H1; have H' := ak H; clear H; have I0 := i0.out; have j3 := i1.out; obtain ⟨_, _, _, _, _, _⟩ := cel3 C0; go_wp2_with (first | ((with_reducible refine gate_callee (f := 32) rfl ?_); refine goB 9 Try.func32 #[.agg #[.int .i64 a0_0, .int .i64 a0_1, .slice A0_2 l0_2.length c0_2]] rfl ?_; (with_reducible refine (spec_PlanOk.calls k a0_0 a0_1 _ _ l0_2 true _ ?side1 ?side2 A6.out).mono ?_); (case side1 => exact cA (Kd.C_below g0.out HB.out)); (case side2 => exact x0.out); rintro e k0 ⟨rfl, hb⟩; refine ⟨_, rfl, ?_⟩; replace C0 := bB C0 hb; replace C1 := bB C1 hb; replace HB := bS hb; (try clear hb)))
    go_meet
    case rel => exact ⟨_, (decide (a1 < 1)), eqA, H', ⟨xq11⟩, ⟨blkA⟩, ⟨blkA⟩, ⟨belA⟩⟩
  replace c7 := Bool.eq_false_iff.mpr c7; subst c7; have H1 : (spec_SplitPlan.j0 k a1 true a0_0 a0_1 l0_2) = some (r1, r2, r3, r4) := by rw [if_neg (show ¬ (false = true) by decide)] at H; exact H
  clear H; have H := H1; clear H1; have H' := ak H; clear H; have I1 := i0.out; have j5 := i1.out; obtain ⟨_, _, _, _, _, _⟩ := cel3 C0; go_wp2_with (first | ((with_reducible refine gate_callee (f := 32) rfl ?_); refine goB 9 Try.func32 #[.agg #[.int .i64 a0_0, .int .i64 a0_1, .slice A0_2 l0_2.length c0_2]] rfl ?_; (with_reducible refine (spec_PlanOk.calls k a0_0 a0_1 _ _ l0_2 false _ ?side1 ?side2 A6.out).mono ?_); (case side1 => exact cA (Kd.C_below g0.out HB.out)); (case side2 => exact x0.out); rintro e k1 ⟨rfl, hb⟩; refine ⟨_, rfl, ?_⟩; replace C0 := bB C0 hb; replace C1 := bB C1 hb; replace HB := bS hb; (try clear hb)))
  go_meet
  case rel => exact ⟨_, (true), eqA, H', ⟨xq11⟩, ⟨blkA⟩, ⟨blkA⟩, ⟨belA⟩⟩
 case rest =>
  clear x1; obtain ⟨kq, W0, rfl, HA, t0, C0, C1, HB⟩ := hcut
  cases kq with
  | zero => exact absurd HA.out (by simp [spec_SplitPlan.j0])
  | succ g1 =>
   have H := HA.out; clear HA; simp only [spec_SplitPlan.j0] at H
   by_cases N0 : W0 = true
   · subst N0; have H1 : (some (0, 0, ([] : List (S36)), false)) = some (r1, r2, r3, r4) := by rw [if_pos rfl] at H; exact H
     clear H; have H := H1; clear H1; simp only [Option.some.injEq, Prod.mk.injEq] at H; obtain ⟨rfl, rfl, rfl, rfl⟩ := H; have I2 := i1.out; have j6 := i0.out; obtain ⟨_, _, _, _, _, _⟩ := cel3 C1; go_wp2
     refine bodyPost_ret (results_ct rfl _ _ c1 26 #[.int .i64 0, .int .i64 0, .slice none 0 0] (0, 0) _ rfl xq21 Try.underlying26 rfl (by kernel_rfl)) rfl ?_
     exact ⟨_, xq1, xq13, belA⟩
   replace N0 := Bool.eq_false_iff.mpr N0; subst N0; have H1 : (spec_SplitPlan.l0 g1 a1 (([] : List (S36))) 0 a0_0 a0_1 l0_2) = some (r1, r2, r3, r4) := by rw [if_neg (show ¬ (false = true) by decide)] at H; exact H
   clear H; have H := H1; clear H1; obtain ⟨K0, hyq⟩ : ∃ y_ : List (S36), y_ = (([] : List (S36))) := ⟨_, rfl⟩; replace H : (spec_SplitPlan.l0 g1 a1 K0 0 a0_0 a0_1 l0_2) = some (r1, r2, r3, r4) := by first | (rw [hyq]; with_reducible exact H) | (have e0 := (Option.bind_some _ _).symm.trans H; rw [hyq]; with_reducible exact e0) | (have e0 := (Option.bind_some _ _).symm.trans H; with_reducible exact e0) | with_reducible exact H | (rw [hyq]; exact H) | exact H
   have E0 := ak hyq; clear hyq; have H' := ak H; clear H; go_wp2_with (first | ((with_reducible refine gate_dst (N := 16) rfl ?_); refine Kd.R_lit k36 _ 36 ?hg (N := 16) ?hd (xs := ([] : List (S36))) (inner := []) (ok := fun _ => True) (okp := fun _ => True) ?hr ?hp (fun _ hk => hk) trivial (Below.refl _ _) (Nat.le_refl _) (by simp) ?_; (case hd => rfl); (case hg => rfl); (case hr => exact xq4); (case hp => exact (Reps.none _ _)); intro d1 k3 D0 hb hg_ hnew_; clear hg_ hnew_; (first | rw [← E0.out] at D0 | (simp only [Int.reduceToNat] at D0; rw [← E0.out] at D0)); have f3 := rL D0; replace C0 := bB C0 hb; replace C1 := bB C1 hb; replace HB := bS hb; clear hb D0))
   go_loopg [6, 7] g1 (fun kq v6 v7 w' => ∃ (W1 : List (S36)) (W2 : Int), v7 = .int .i64 W2 ∧ Aside0 (spec_SplitPlan.l0 kq a1 W1 W2 a0_0 a0_1 l0_2 = some (r1, r2, r3, r4)) ∧ Aside0 (kq ≤ g1) ∧ Aside0 (Kd.R k36 36 w' w.heap.size (fun _ => True) v6 W1) ∧ Aside0 (w'.heap[c0]? = some (.cells #[.int .i64 a0_0, .int .i64 a0_1, (.slice A0_2 l0_2.length c0_2)] 26 (0, 0))) ∧ Aside0 (w'.heap[c1]? = some (.cells #[.int .i64 0, .int .i64 0, (.slice none 0 0)] 26 (0, 0))) ∧ Aside0 (Below w.heap.size w w'))
   case atStart => exact ⟨(K0), (0), eqA, H', ⟨Nat.le_refl _⟩, ⟨rA f3⟩, ⟨blkA⟩, ⟨blkA⟩, ⟨belA⟩⟩
   case round =>
    clear H'; obtain ⟨W1, W2, rfl, HA, n0, f4, C0, C1, HB⟩ := hrel
    cases gk with
    | zero => exact absurd HA.out (by simp [spec_SplitPlan.l0])
    | succ k2 =>
     have H := HA.out; clear HA; simp only [spec_SplitPlan.l0] at H
     by_cases N1 : W2 < (l0_2.length : Int)
     · rw [if_pos N1] at H; have N2 := decide_eq_true N1; clear N1
       by_cases N3 : 0 ≤ W2; rotate_left
       · rw [if_neg N3] at H; exact absurd H (by simp)
       rw [if_pos N3] at H; have N4 := decide_eq_true N3; clear N3; replace H := Option.bind_eq_some_iff.mp H; obtain ⟨z1, Z1, H⟩ := H; (try dsimp only at H); have Z2 := ak Z1; clear Z1; have H' := ak H; clear H; have I3 := i0.out; have j7 := i1.out; obtain ⟨_, _, _, _, _, _⟩ := cel3 C0; have v0 : 0 ≤ (W2 : Int) := odA; have V0 : W2 < (l0_2.length : Int) := odA; obtain ⟨a5, A0, o0, o1, o2⟩ := at_T36 g0.out W2 v0 V0
       cases A0
       try replace o0 := cB HB o0
       try replace o1 := cB HB o1
       try replace o2 := cB HB o2
       replace v0 := eq_true v0; replace V0 := eq_true V0; obtain ⟨F0, l6, L0⟩ := Kd.R_slice f4.out; subst L0; go_wp2_with (first | ((with_reducible refine gate_callee (f := 88) rfl ?_); refine goB 31 Try.func88 #[.slice F0 W1.length l6, .agg #[.int .i64 ((rd_T36 l0_2 W2).f0), .int .i64 ((rd_T36 l0_2 W2).f1), .int .i64 ((rd_T36 l0_2 W2).f2)], .int .i64 a1] rfl ?_; (with_reducible refine (spec_l09Cut.calls k2 (fun k_ => some k_ = (.slice F0 W1.length l6 : Value).ownBlock) (.slice F0 W1.length l6) W1 ((rd_T36 l0_2 W2).f0) ((rd_T36 l0_2 W2).f1) ((rd_T36 l0_2 W2).f2) a1 z1 w _ ?side1 ?side2 Z2.out).mono ?_); (case side1 => repeat (first | (with_reducible first | exact HB.out | apply below_alloc | apply pw_below_drewN | apply below_drew1 | refine below_set ?_ Y0.out | refine below_set ?_ Y1.out) | exact HB.out)); (case side2 => exact Kd.R_tight rfl f4.out); rintro e k4 ⟨d2, rfl, D1, hb, hkp⟩; refine ⟨_, rfl, ?_⟩; have x2 := ak (blk_kept blkA hkp (fun hs_ => (fun e_ => (Kd.R_ne f4.out C0.out (by decide)) e_) hs_)); have x3 := ak (blk_kept blkA hkp (fun hs_ => (fun e_ => (Kd.R_ne f4.out C1.out (by decide)) e_) hs_)); have x4 := ak (Kd.R_mono (ok' := fun k_ => True) D1 (fun k_ hk_ => trivial)); have x5 := ak hb; clear C0; clear C1; clear HB; clear f4; have C0 := x2; have C1 := x3; have f5 := x4; have HB := x5; clear x2 x3 x4 x5; (try clear hb); (try clear hkp); (try clear D1)))
       go_roundg k2
       case measure => have := t0.out; have := n0.out; omega
       case rel => exact ⟨(z1), (wrap64 (W2 + 1)), eqA, H', ⟨xq26⟩, ⟨rA f5⟩, ⟨blkA⟩, ⟨blkA⟩, ⟨belA⟩⟩
     rw [if_neg N1] at H; have N2 := decide_eq_false N1; clear N1
     by_cases N5 : (W1.length : Int) > 600
     · rw [if_pos N5] at H; have N6 : decide (600 < (W1.length : Int)) = true := decide_eq_true N5; have N7 : decide (600 < W1.length) = true := decide_eq_true (by omega); clear N5; simp only [Option.some.injEq, Prod.mk.injEq] at H; obtain ⟨rfl, rfl, rfl, rfl⟩ := H; have I4 := i0.out; have j8 := i1.out; obtain ⟨_, _, _, _, _, _⟩ := cel3 C0; obtain ⟨F1, l7, L1⟩ := Kd.R_slice f4.out; subst L1; obtain ⟨_, _, _, _, _, _⟩ := cel3 C1; go_wp2
       refine bodyPost_ret (results_ct rfl _ _ c1 26 #[.int .i64 0, .int .i64 0, .slice none 0 0] (0, 0) _ rfl xq21 Try.underlying26 rfl (by kernel_rfl)) rfl ?_
       exact ⟨_, xq1, xq13, belA⟩
     rw [if_neg N5] at H; have N6 : decide (600 < (W1.length : Int)) = false := decide_eq_false N5; have N7 : decide (600 < W1.length) = false := decide_eq_false (by omega); clear N5; simp only [Option.some.injEq, Prod.mk.injEq] at H; obtain ⟨rfl, rfl, rfl, rfl⟩ := H; have I5 := i0.out; have j9 := i1.out; obtain ⟨_, _, _, _, _, _⟩ := cel3 C0; obtain ⟨F2, l8, L2⟩ := Kd.R_slice f4.out; subst L2; obtain ⟨_, _, _, _, _, _⟩ := cel3 C1; go_wp2
     refine bodyPost_ret (results_ct rfl _ _ c1 26 #[.int .i64 a0_0, .int .i64 a0_1, .slice F2 W1.length l8] (0, 0) _ rfl xq48 Try.underlying26 rfl (by kernel_rfl)) rfl ?_
     exact ⟨_, xq1, by (with_reducible repeat (first | apply Kd.R_alloc | apply Kd.R_drewN | apply Kd.R_drew)); exact Kd.R_mono (Kd.R_far (p := ⟨c1, 2, none⟩) (Kd.R_far (p := ⟨c1, 1, none⟩) (Kd.R_far (p := ⟨c1, 0, none⟩) (Kd.R_types f4.out C1.out (by decide)) (fun _ hk => hk.2) (.int .i64 a0_0)) (fun _ hk => hk.2) (.int .i64 a0_1)) (fun _ hk => hk.2) (.slice F2 W1.length l8)) (fun _ hk => trivial), belA⟩

end Go.Proofs.Ytbojabmpcfclhaa.PFnPlanTurned

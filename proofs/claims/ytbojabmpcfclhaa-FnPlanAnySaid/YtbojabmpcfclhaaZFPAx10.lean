-- Written by a program of this session (the print of the kit with contracts of this session's own added)
import Derived.Test.YtbojabmpcfclhaaZFPAx1
import Derived.Test.YtbojabmpcfclhaaZFPAx9
import Derived.Test.YtbojabmpcfclhaaZFPAV
import Derived.Test.YtbojabmpcfclhaaZFPAx2
namespace Go.Proofs.Ytbojabmpcfclhaa.PFnPlanAny
open Go.RowKit Go.Proofs.YtbojabmpcfclhaaW.PrintWords Go.Proofs.YtbojabmpcfclhaaW.PrintLast Go.Proofs.YtbojabmpcfclhaaW.PrintMore Go.Proofs.YtbojabmpcfclhaaW.PrintPack
attribute [local go_sem] max2_int min2_int max_two min_two max_three min_three max_four min_four   -- for this text's walks alone
set_option linter.unusedVariables false
set_option linter.unusedSimpArgs false

/-! ### impl_vectorField: function 69 -/
def impl_vectorField.l0 : Nat → List (List Int) → List (List Int) → Int → Int → Int → Int → Int → Option (Int × Int × Int × Bool)
 | 0, _, _, _, _, _, _, _ => none
 | k + 1, x1, x19, x20, x21, x351000, x351001, x351002 => if x21 < x20 then (if 0 ≤ x21 then (if x21 < (x19.length : Int) then ((impl_logOf.f k ((rd_L3 x19 x21).length : Int)).bind fun t352 => (if t352 < 0 then (some (0, 0, 0, false)) else (if t352 > x351002 then (some (0, 0, 0, false)) else ((impl_field_areElements.f k x351000 x351001 x351002 (rd_L3 x19 x21)).bind fun t353 => (if t353 = true then (if 0 < (x1.length : Int) then (if ((rd_L3 x19 x21).length : Int) = ((rd_L3 x1 0).length : Int) then (impl_vectorField.l0 k x1 x19 x20 (wrap64 (x21 + 1)) x351000 x351001 x351002) else (some (0, 0, 0, false))) else (none)) else (some (0, 0, 0, false))))))) else (none)) else (none)) else (some (x351000, x351001, x351002, true))
def impl_vectorField.f (k : Nat) (a0 : Int) (l1 : List (List Int)) : Option (Int × Int × Int × Bool) := (impl_fieldOf.f a0).bind fun bt346 => (if bt346.2.2.2 = true then (impl_vectorField.l0 k l1 l1 (l1.length : Int) 0 bt346.1 bt346.2.1 bt346.2.2.1) else (some (0, 0, 0, false)))
theorem impl_vectorField.mono_l : ∀ k, (∀ y0 y1 y2 y3 y4 y5 y6, LeO (impl_vectorField.l0 k y0 y1 y2 y3 y4 y5 y6) (impl_vectorField.l0 (k + 1) y0 y1 y2 y3 y4 y5 y6))
 | 0 => fun _ _ _ _ _ _ _ r h => by simp [impl_vectorField.l0] at h
 | k + 1 => by
  have ih0 := impl_vectorField.mono_l k
  · intro y0 y1 y2 y3 y4 y5 y6
    unfold impl_vectorField.l0
    repeat' first
    | (with_reducible exact ih0 _ _ _ _ _ _ _)
    | (with_reducible exact impl_field_areElements.mono _ _ _ _ _)
    | (with_reducible exact impl_logOf.mono _ _)
    | (with_reducible exact LeO.refl _)
    | (with_reducible exact LeO.none _)
    | (with_reducible refine LeO.ite ?_ ?_)
    | (with_reducible refine LeO.bind ?_ (fun _ => ?_))
    | exact ih0 _ _ _ _ _ _ _
    | exact impl_field_areElements.mono _ _ _ _ _
    | exact impl_logOf.mono _ _
    | exact LeO.none _
    | refine LeO.ite ?_ ?_
    | refine LeO.bind ?_ (fun _ => ?_)
theorem impl_vectorField.mono : ∀ a0 a1 k, LeO (impl_vectorField.f k a0 a1) (impl_vectorField.f (k + 1) a0 a1) := by
 intro a0 a1 k; have ih0 := impl_vectorField.mono_l k
 unfold impl_vectorField.f
 repeat' first
  | (with_reducible exact ih0 _ _ _ _ _ _ _)
  | (with_reducible exact impl_field_areElements.mono _ _ _ _ _)
  | (with_reducible exact impl_logOf.mono _ _)
  | (with_reducible exact LeO.refl _)
  | (with_reducible exact LeO.none _)
  | (with_reducible refine LeO.ite ?_ ?_)
  | (with_reducible refine LeO.bind ?_ (fun _ => ?_))
  | exact ih0 _ _ _ _ _ _ _
  | exact impl_field_areElements.mono _ _ _ _ _
  | exact impl_logOf.mono _ _
  | exact LeO.none _
  | refine LeO.ite ?_ ?_
  | refine LeO.bind ?_ (fun _ => ?_)
set_option maxHeartbeats 8000000 in
set_option maxRecDepth 100000 in
theorem impl_vectorField.calls (k : Nat) (a0 : Int) (A1 : Option Addr) (c1 : Nat) (l1 : List (List Int)) (r1 : Int) (r2 : Int) (r3 : Int) (r4 : Bool) (w : World) (hr1 : Kd.C (Kd.slice 3 (Kd.int .i64)) w A1 l1.length l1) (hc1 : l1.length ≤ c1) (h : impl_vectorField.f k a0 l1 = some (r1, r2, r3, r4)) :
 Calls Try.prog 69 #[.int .i64 a0, .slice A1 l1.length c1] w fun e w' => e = .returned (.tuple #[.agg #[.int .i64 r1, .int .i64 r2, .int .i64 r3], .bool r4]) ∧ Below w.heap.size w w' := by
 have hu95 := Try.underlying95; have HR1 := Aside0.mk hr1; have HC1 := Aside0.mk hc1; clear hr1 hc1; have HB := Aside0.mk (Below.refl w.heap.size w); have H : ((impl_fieldOf.f a0).bind fun bt346 => (if bt346.2.2.2 = true then (impl_vectorField.l0 k l1 l1 (l1.length : Int) 0 bt346.1 bt346.2.1 bt346.2.2.1) else (some (0, 0, 0, false)))) = some (r1, r2, r3, r4) := h; clear h; replace H := Option.bind_eq_some_iff.mp H; obtain ⟨⟨t346, t347, t348, t349⟩, A30, H⟩ := H; replace H : (if t349 = true then (impl_vectorField.l0 k l1 l1 (l1.length : Int) 0 t346 t347 t348) else (some (0, 0, 0, false))) = some (r1, r2, r3, r4) := H
 have A3 := Aside0.mk A30; clear A30
 by_cases c4 : t349 = true
 · subst c4; have H1 : (impl_vectorField.l0 k l1 l1 (l1.length : Int) 0 t346 t347 t348) = some (r1, r2, r3, r4) := by rw [if_pos rfl] at H; exact H
   clear H; have H := H1; clear H1; have H' := Aside0.mk H; clear H; go_enter Try.func69, Try.ntmps69
   go_wp2_with (first | ((with_reducible refine gate_dst (N := 4) rfl ?_); (try (refine gate_guard (by rfl) ?_; dsimp only)); refine boxA 4 #[.int .i64 0, .int .i64 0, .int .i64 0] 95 ?_; intro gb345 hg w5 hbox hb; have BK345 := Aside0.mk hbox; have GW345 := leA (w := w) hg; have GE345 := leA (w := w) hg; replace HB := bS hb; clear hb hbox hg) | ((with_reducible refine gate_callee (f := 84) rfl ?_); refine goesL_ (some 13) rfl rfl Try.func84 (by kernel_rfl) rfl #[.int .i64 a0] rfl xq1 ?_; (with_reducible refine (impl_fieldOf.calls a0 t346 t347 t348 true _ A3.out).mono ?_); rintro e w6 ⟨rfl, hb⟩; refine ⟨_, rfl, ?_⟩; replace BK345 := bB BK345 hb; replace HB := bS hb; (try clear hb); (try clear hb2); (try clear hk); (try clear hi)) | ((with_reducible refine gate_dst (N := 6) rfl ?_); (try (refine gate_guard (by rfl) ?_; dsimp only)); refine boxA 6 #[.int .i64 0, .int .i64 0, .int .i64 0] 95 ?_; intro gb350 hg w7 hbox hb; have BK350 := Aside0.mk hbox; have GW350 := leA (w := w) hg; have GE350 := leA (w := w) hg; have NB345_350 := neL hg BK345; have NB350_345 := neG hg BK345; replace BK345 := bB BK345 hb; replace HB := bS hb; clear hb hbox hg; have hnb8 := NB350_345.out; have hnc8 := NB345_350.out; obtain ⟨hcz9_0, hcz9_1, hcz9_2, hfz9_0, hfz9_1, hfz9_2⟩ := cel3 BK350))
   go_loopg [21] k (fun kq v21 w' => ∃ (x21_1 : Int) (x346000_1 : Int) (x346001_1 : Int) (x346002_1 : Int), v21 = .int .i64 x21_1 ∧ Aside0 (impl_vectorField.l0 kq l1 l1 (l1.length : Int) x21_1 t346 t347 t348 = some (r1, r2, r3, r4)) ∧ Aside0 (kq ≤ k) ∧ Aside0 (w'.heap[gb345]? = some (.cells #[.int .i64 x346000_1, .int .i64 x346001_1, .int .i64 x346002_1] 95 (0, 0))) ∧ Aside0 (w'.heap[gb350]? = some (.cells #[.int .i64 t346, .int .i64 t347, .int .i64 t348] 95 (0, 0))) ∧ Aside0 (Below w.heap.size w w'))
   case atStart => exact ⟨(0), (0), (0), (0), eqA, H', ⟨Nat.le_refl _⟩, ⟨by (with_reducible repeat (first | refine blk_drewN ?_ _ | refine blk_drew ?_ | refine blk_alloc ?_ _)); refine blk_far ?_ NB345_350.out _; (with_reducible repeat (first | refine blk_drewN ?_ _ | refine blk_drew ?_ | refine blk_alloc ?_ _)); refine blk_far ?_ NB345_350.out _; (with_reducible repeat (first | refine blk_drewN ?_ _ | refine blk_drew ?_ | refine blk_alloc ?_ _)); refine blk_far ?_ NB345_350.out _; (with_reducible repeat (first | refine blk_drewN ?_ _ | refine blk_drew ?_ | refine blk_alloc ?_ _)); exact BK345.out⟩, ⟨by (with_reducible repeat (first | refine blk_drewN ?_ _ | refine blk_drew ?_ | refine blk_alloc ?_ _)); refine blk_put (cs := #[.int .i64 t346, .int .i64 t347, .int .i64 0]) ?_ 2 _ rfl; (with_reducible repeat (first | refine blk_drewN ?_ _ | refine blk_drew ?_ | refine blk_alloc ?_ _)); refine blk_put (cs := #[.int .i64 t346, .int .i64 0, .int .i64 0]) ?_ 1 _ rfl; (with_reducible repeat (first | refine blk_drewN ?_ _ | refine blk_drew ?_ | refine blk_alloc ?_ _)); refine blk_put (cs := #[.int .i64 0, .int .i64 0, .int .i64 0]) ?_ 0 _ rfl; (with_reducible repeat (first | refine blk_drewN ?_ _ | refine blk_drew ?_ | refine blk_alloc ?_ _)); exact BK350.out⟩, ⟨belA⟩⟩
   case round =>
    clear H'; obtain ⟨x21_1, x346000_1, x346001_1, x346002_1, rfl, HA, HK1, BK345, BK350, HB⟩ := hrel
    cases gk with
    | zero => exact absurd HA.out (by simp [impl_vectorField.l0])
    | succ k1 =>
     have H := HA.out; clear HA; simp only [impl_vectorField.l0] at H
     by_cases c10 : x21_1 < (l1.length : Int)
     · rw [if_pos c10] at H; have c10b0 := decide_eq_true c10; clear c10
       by_cases c11 : 0 ≤ x21_1
       · rw [if_pos c11] at H; have c11b0 := decide_eq_true c11; clear c11
         by_cases c12 : x21_1 < (l1.length : Int)
         · rw [if_pos c12] at H; have c12b0 := decide_eq_true c12; clear c12; replace H := Option.bind_eq_some_iff.mp H; obtain ⟨t352, A130, H⟩ := H; replace H : (if t352 < 0 then (some (0, 0, 0, false)) else (if t352 > t348 then (some (0, 0, 0, false)) else ((impl_field_areElements.f k1 t346 t347 t348 (rd_L3 l1 x21_1)).bind fun t353 => (if t353 = true then (if 0 < (l1.length : Int) then (if ((rd_L3 l1 x21_1).length : Int) = ((rd_L3 l1 0).length : Int) then (impl_vectorField.l0 k1 l1 l1 (l1.length : Int) (wrap64 (x21_1 + 1)) t346 t347 t348) else (some (0, 0, 0, false))) else (none)) else (some (0, 0, 0, false)))))) = some (r1, r2, r3, r4) := H
           have A13 := Aside0.mk A130; clear A130
           by_cases c14 : t352 < 0
           · rw [if_pos c14] at H; have c14b0 := decide_eq_true c14; clear c14; simp only [Option.some.injEq, Prod.mk.injEq] at H; obtain ⟨rfl, rfl, rfl, rfl⟩ := H; have p351 : 0 ≤ (x21_1 : Int) := odA; have q351 : x21_1 < (l1.length : Int) := odA; obtain ⟨ad351, A351_0, c351_0, e351, hx351_0, hl351_0, hi351_0⟩ := at_L3 HR1.out x21_1 p351 q351
             cases e351
             try replace hx351_0 := cB HB hx351_0
             have HR351_0 := Aside0.mk hi351_0; have HC351_0 := Aside0.mk hl351_0; clear hi351_0 hl351_0; replace p351 := eq_true p351; replace q351 := eq_true q351; go_wp2_with (first | ((with_reducible refine gate_callee (f := 67) rfl ?_); refine goesL_ (some 27) rfl rfl Try.func67 (by kernel_rfl) rfl #[.int .i64 ((rd_L3 l1 x21_1).length : Int)] rfl xq1 ?_; (with_reducible refine (impl_logOf.calls k1 ((rd_L3 l1 x21_1).length : Int) t352 _ A13.out).mono ?_); rintro e w' ⟨rfl, ⟨nd, rfl⟩⟩; refine ⟨_, rfl, ?_⟩; (try (rw [drewN_self wr]; generalize hq_ : World.drewN wr _ = wr; have n0_ : Aside0 (wr.heap[gb345]? = some (.cells #[.int .i64 x346000_1, .int .i64 x346001_1, .int .i64 x346002_1] 95 (0, 0))) := ⟨xq17⟩; have n1_ : Aside0 (wr.heap[gb350]? = some (.cells #[.int .i64 t346, .int .i64 t347, .int .i64 t348] 95 (0, 0))) := ⟨xq17⟩; have n2_ : Aside0 (Below w.heap.size w wr) := ⟨xq26⟩; have hcy0_0 : wr.cell? ⟨gb345, 0, none⟩ = some (.int .i64 x346000_1) := (blk_cell n0_.out 0).trans rfl; have hfy0_0 := blk_frozen n0_.out 0; have hcy0_1 : wr.cell? ⟨gb345, 1, none⟩ = some (.int .i64 x346001_1) := (blk_cell n0_.out 1).trans rfl; have hfy0_1 := blk_frozen n0_.out 1; have hcy0_2 : wr.cell? ⟨gb345, 2, none⟩ = some (.int .i64 x346002_1) := (blk_cell n0_.out 2).trans rfl; have hfy0_2 := blk_frozen n0_.out 2; have hcy1_0 : wr.cell? ⟨gb350, 0, none⟩ = some (.int .i64 t346) := (blk_cell n1_.out 0).trans rfl; have hfy1_0 := blk_frozen n1_.out 0; have hcy1_1 : wr.cell? ⟨gb350, 1, none⟩ = some (.int .i64 t347) := (blk_cell n1_.out 1).trans rfl; have hfy1_1 := blk_frozen n1_.out 1; have hcy1_2 : wr.cell? ⟨gb350, 2, none⟩ = some (.int .i64 t348) := (blk_cell n1_.out 2).trans rfl; have hfy1_2 := blk_frozen n1_.out 2; clear BK345 BK350 HB hq_; have BK345 := n0_; have BK350 := n1_; have HB := n2_; clear n0_ n1_ n2_)); have hnb15 := NB345_350.out; have hnc15 := NB350_345.out; obtain ⟨hcz16_0, hcz16_1, hcz16_2, hfz16_0, hfz16_1, hfz16_2⟩ := cel3 BK345))
             refine bodyPost_ret (results_ct rfl _ _ gb345 95 #[.int .i64 0, .int .i64 0, .int .i64 0] (0, 0) _ rfl xq36 Try.underlying95 rfl (by kernel_rfl)) rfl ?_
             exact ⟨xq2, belA⟩
           · rw [if_neg c14] at H; have c14b0 := decide_eq_false c14; clear c14
             by_cases c17 : t352 > t348
             · rw [if_pos c17] at H; have c17b0 := decide_eq_true c17; clear c17; simp only [Option.some.injEq, Prod.mk.injEq] at H; obtain ⟨rfl, rfl, rfl, rfl⟩ := H; have p351 : 0 ≤ (x21_1 : Int) := odA; have q351 : x21_1 < (l1.length : Int) := odA; obtain ⟨ad351, A351_0, c351_0, e351, hx351_0, hl351_0, hi351_0⟩ := at_L3 HR1.out x21_1 p351 q351
               cases e351
               try replace hx351_0 := cB HB hx351_0
               have HR351_0 := Aside0.mk hi351_0; have HC351_0 := Aside0.mk hl351_0; clear hi351_0 hl351_0; replace p351 := eq_true p351; replace q351 := eq_true q351; go_wp2_with (first | ((with_reducible refine gate_callee (f := 67) rfl ?_); refine goesL_ (some 27) rfl rfl Try.func67 (by kernel_rfl) rfl #[.int .i64 ((rd_L3 l1 x21_1).length : Int)] rfl xq1 ?_; (with_reducible refine (impl_logOf.calls k1 ((rd_L3 l1 x21_1).length : Int) t352 _ A13.out).mono ?_); rintro e w' ⟨rfl, ⟨nd, rfl⟩⟩; refine ⟨_, rfl, ?_⟩; (try (rw [drewN_self wr]; generalize hq_ : World.drewN wr _ = wr; have n0_ : Aside0 (wr.heap[gb345]? = some (.cells #[.int .i64 x346000_1, .int .i64 x346001_1, .int .i64 x346002_1] 95 (0, 0))) := ⟨xq17⟩; have n1_ : Aside0 (wr.heap[gb350]? = some (.cells #[.int .i64 t346, .int .i64 t347, .int .i64 t348] 95 (0, 0))) := ⟨xq17⟩; have n2_ : Aside0 (Below w.heap.size w wr) := ⟨xq26⟩; have hcy0_0 : wr.cell? ⟨gb345, 0, none⟩ = some (.int .i64 x346000_1) := (blk_cell n0_.out 0).trans rfl; have hfy0_0 := blk_frozen n0_.out 0; have hcy0_1 : wr.cell? ⟨gb345, 1, none⟩ = some (.int .i64 x346001_1) := (blk_cell n0_.out 1).trans rfl; have hfy0_1 := blk_frozen n0_.out 1; have hcy0_2 : wr.cell? ⟨gb345, 2, none⟩ = some (.int .i64 x346002_1) := (blk_cell n0_.out 2).trans rfl; have hfy0_2 := blk_frozen n0_.out 2; have hcy1_0 : wr.cell? ⟨gb350, 0, none⟩ = some (.int .i64 t346) := (blk_cell n1_.out 0).trans rfl; have hfy1_0 := blk_frozen n1_.out 0; have hcy1_1 : wr.cell? ⟨gb350, 1, none⟩ = some (.int .i64 t347) := (blk_cell n1_.out 1).trans rfl; have hfy1_1 := blk_frozen n1_.out 1; have hcy1_2 : wr.cell? ⟨gb350, 2, none⟩ = some (.int .i64 t348) := (blk_cell n1_.out 2).trans rfl; have hfy1_2 := blk_frozen n1_.out 2; clear BK345 BK350 HB hq_; have BK345 := n0_; have BK350 := n1_; have HB := n2_; clear n0_ n1_ n2_)); have hnb18 := NB350_345.out; have hnc18 := NB345_350.out; obtain ⟨hcz19_0, hcz19_1, hcz19_2, hfz19_0, hfz19_1, hfz19_2⟩ := cel3 BK350; obtain ⟨hcz20_0, hcz20_1, hcz20_2, hfz20_0, hfz20_1, hfz20_2⟩ := cel3 BK345))
               refine bodyPost_ret (results_ct rfl _ _ gb345 95 #[.int .i64 0, .int .i64 0, .int .i64 0] (0, 0) _ rfl xq36 Try.underlying95 rfl (by kernel_rfl)) rfl ?_
               exact ⟨xq2, belA⟩
             · rw [if_neg c17] at H; have c17b0 := decide_eq_false c17; clear c17; replace H := Option.bind_eq_some_iff.mp H; obtain ⟨t353, A210, H⟩ := H; replace H : (if t353 = true then (if 0 < (l1.length : Int) then (if ((rd_L3 l1 x21_1).length : Int) = ((rd_L3 l1 0).length : Int) then (impl_vectorField.l0 k1 l1 l1 (l1.length : Int) (wrap64 (x21_1 + 1)) t346 t347 t348) else (some (0, 0, 0, false))) else (none)) else (some (0, 0, 0, false))) = some (r1, r2, r3, r4) := H
               have A21 := Aside0.mk A210; clear A210
               by_cases c22 : t353 = true
               · subst c22; have H1 : (if 0 < (l1.length : Int) then (if ((rd_L3 l1 x21_1).length : Int) = ((rd_L3 l1 0).length : Int) then (impl_vectorField.l0 k1 l1 l1 (l1.length : Int) (wrap64 (x21_1 + 1)) t346 t347 t348) else (some (0, 0, 0, false))) else (none)) = some (r1, r2, r3, r4) := by rw [if_pos rfl] at H; exact H
                 clear H; have H := H1; clear H1
                 by_cases c23 : 0 < (l1.length : Int)
                 · rw [if_pos c23] at H; have c23b0 := decide_eq_true c23; have c23b1 : decide (0 < l1.length) = true := decide_eq_true (by omega); clear c23
                   by_cases c24 : ((rd_L3 l1 x21_1).length : Int) = ((rd_L3 l1 0).length : Int)
                   · rw [if_pos c24] at H; have c24b0 : (((rd_L3 l1 x21_1).length : Int) == ((rd_L3 l1 0).length : Int)) = true := beq_iff_eq.mpr c24; have c24b1 : (((rd_L3 l1 x21_1).length : Int) != ((rd_L3 l1 0).length : Int)) = false := bne_eq_false_iff_eq.mpr c24; have c24b2 : ((rd_L3 l1 x21_1).length == (rd_L3 l1 0).length) = true := by first | simpa using c24 | (simp at c24 ⊢; omega)
                     clear c24; have H' := Aside0.mk H; clear H; have p351 : 0 ≤ (x21_1 : Int) := odA; have q351 : x21_1 < (l1.length : Int) := odA; obtain ⟨ad351, A351_0, c351_0, e351, hx351_0, hl351_0, hi351_0⟩ := at_L3 HR1.out x21_1 p351 q351
                     cases e351
                     try replace hx351_0 := cB HB hx351_0
                     have HR351_0 := Aside0.mk hi351_0; have HC351_0 := Aside0.mk hl351_0; clear hi351_0 hl351_0; replace p351 := eq_true p351; replace q351 := eq_true q351; go_wp2_with (first | ((with_reducible refine gate_callee (f := 67) rfl ?_); refine goesL_ (some 27) rfl rfl Try.func67 (by kernel_rfl) rfl #[.int .i64 ((rd_L3 l1 x21_1).length : Int)] rfl xq1 ?_; (with_reducible refine (impl_logOf.calls k1 ((rd_L3 l1 x21_1).length : Int) t352 _ A13.out).mono ?_); rintro e w' ⟨rfl, ⟨nd, rfl⟩⟩; refine ⟨_, rfl, ?_⟩; have hnb25 := NB350_345.out; have hnc25 := NB345_350.out; obtain ⟨hcz26_0, hcz26_1, hcz26_2, hfz26_0, hfz26_1, hfz26_2⟩ := cel3 BK350) | (go_at_call 121; (with_reducible refine (impl_field_areElements.calls k1 t346 t347 t348 _ _ (rd_L3 l1 x21_1) true _ ?side1 ?side2 A21.out).mono ?_); (case side1 => exact cA (Kd.C_below HR351_0.out belA)); (case side2 => exact HC351_0.out); rintro e w27 ⟨rfl, hb⟩; replace BK345 := bB BK345 hb; replace BK350 := bB BK350 hb; replace HB := bS hb; (try clear hb); (try clear hb2); (try clear hk); (try clear hi); have p354 : 0 ≤ (0 : Int) := (by omega); have q354 : 0 < (l1.length : Int) := odA; obtain ⟨ad354, A354_0, c354_0, e354, hx354_0, hl354_0, hi354_0⟩ := at_L3 HR1.out 0 p354 q354; obtain rfl : ad351 = ad354 := (by injection e354); have qi354 : (0 < l1.length) = True := eq_true (by omega); (try rw [show ((0 : Int)).toNat = 0 from rfl] at hx354_0); (try rw [Addr.add_zero'] at hx354_0); replace hx354_0 := cB HB hx354_0; have HR354_0 := Aside0.mk hi354_0; have HC354_0 := Aside0.mk hl354_0; clear hi354_0 hl354_0; replace p354 := eq_true p354; replace q354 := eq_true q354))
                     go_roundg k1
                     case measure => have := HK1.out; omega
                     case rel => exact ⟨(wrap64 (x21_1 + 1)), (x346000_1), (x346001_1), (x346002_1), eqA, H', ⟨xq12⟩, ⟨blkA⟩, ⟨blkA⟩, ⟨belA⟩⟩
                   · rw [if_neg c24] at H; have c24b0 : (((rd_L3 l1 x21_1).length : Int) == ((rd_L3 l1 0).length : Int)) = false := beq_eq_false_iff_ne.mpr c24; have c24b1 : (((rd_L3 l1 x21_1).length : Int) != ((rd_L3 l1 0).length : Int)) = true := bne_iff_ne.mpr c24; have c24b2 : ((rd_L3 l1 x21_1).length == (rd_L3 l1 0).length) = false := by first | simpa using c24 | (simp at c24 ⊢; omega)
                     simp only [Option.some.injEq, Prod.mk.injEq] at H; obtain ⟨rfl, rfl, rfl, rfl⟩ := H; have p351 : 0 ≤ (x21_1 : Int) := odA; have q351 : x21_1 < (l1.length : Int) := odA; obtain ⟨ad351, A351_0, c351_0, e351, hx351_0, hl351_0, hi351_0⟩ := at_L3 HR1.out x21_1 p351 q351
                     cases e351
                     try replace hx351_0 := cB HB hx351_0
                     have HR351_0 := Aside0.mk hi351_0; have HC351_0 := Aside0.mk hl351_0; clear hi351_0 hl351_0; replace p351 := eq_true p351; replace q351 := eq_true q351; go_wp2_with (first | ((with_reducible refine gate_callee (f := 67) rfl ?_); refine goesL_ (some 27) rfl rfl Try.func67 (by kernel_rfl) rfl #[.int .i64 ((rd_L3 l1 x21_1).length : Int)] rfl xq1 ?_; (with_reducible refine (impl_logOf.calls k1 ((rd_L3 l1 x21_1).length : Int) t352 _ A13.out).mono ?_); rintro e w' ⟨rfl, ⟨nd, rfl⟩⟩; refine ⟨_, rfl, ?_⟩; (try (rw [drewN_self wr]; generalize hq_ : World.drewN wr _ = wr; have n0_ : Aside0 (wr.heap[gb345]? = some (.cells #[.int .i64 x346000_1, .int .i64 x346001_1, .int .i64 x346002_1] 95 (0, 0))) := ⟨xq17⟩; have n1_ : Aside0 (wr.heap[gb350]? = some (.cells #[.int .i64 t346, .int .i64 t347, .int .i64 t348] 95 (0, 0))) := ⟨xq17⟩; have n2_ : Aside0 (Below w.heap.size w wr) := ⟨xq26⟩; have hcy0_0 : wr.cell? ⟨gb345, 0, none⟩ = some (.int .i64 x346000_1) := (blk_cell n0_.out 0).trans rfl; have hfy0_0 := blk_frozen n0_.out 0; have hcy0_1 : wr.cell? ⟨gb345, 1, none⟩ = some (.int .i64 x346001_1) := (blk_cell n0_.out 1).trans rfl; have hfy0_1 := blk_frozen n0_.out 1; have hcy0_2 : wr.cell? ⟨gb345, 2, none⟩ = some (.int .i64 x346002_1) := (blk_cell n0_.out 2).trans rfl; have hfy0_2 := blk_frozen n0_.out 2; have hcy1_0 : wr.cell? ⟨gb350, 0, none⟩ = some (.int .i64 t346) := (blk_cell n1_.out 0).trans rfl; have hfy1_0 := blk_frozen n1_.out 0; have hcy1_1 : wr.cell? ⟨gb350, 1, none⟩ = some (.int .i64 t347) := (blk_cell n1_.out 1).trans rfl; have hfy1_1 := blk_frozen n1_.out 1; have hcy1_2 : wr.cell? ⟨gb350, 2, none⟩ = some (.int .i64 t348) := (blk_cell n1_.out 2).trans rfl; have hfy1_2 := blk_frozen n1_.out 2; clear BK345 BK350 HB hq_; have BK345 := n0_; have BK350 := n1_; have HB := n2_; clear n0_ n1_ n2_)); have hnb28 := NB350_345.out; have hnc28 := NB345_350.out; obtain ⟨hcz29_0, hcz29_1, hcz29_2, hfz29_0, hfz29_1, hfz29_2⟩ := cel3 BK350) | (go_at_call 121; (with_reducible refine (impl_field_areElements.calls k1 t346 t347 t348 _ _ (rd_L3 l1 x21_1) true _ ?side1 ?side2 A21.out).mono ?_); (case side1 => exact cA (Kd.C_below HR351_0.out HB.out)); (case side2 => exact HC351_0.out); rintro e w30 ⟨rfl, hb⟩; replace BK345 := bB BK345 hb; replace BK350 := bB BK350 hb; replace HB := bS hb; (try clear hb); (try clear hb2); (try clear hk); (try clear hi); have p354 : 0 ≤ (0 : Int) := (by omega); have q354 : 0 < (l1.length : Int) := odA; obtain ⟨ad354, A354_0, c354_0, e354, hx354_0, hl354_0, hi354_0⟩ := at_L3 HR1.out 0 p354 q354; obtain rfl : ad351 = ad354 := (by injection e354); have qi354 : (0 < l1.length) = True := eq_true (by omega); (try rw [show ((0 : Int)).toNat = 0 from rfl] at hx354_0); (try rw [Addr.add_zero'] at hx354_0); replace hx354_0 := cB HB hx354_0; have HR354_0 := Aside0.mk hi354_0; have HC354_0 := Aside0.mk hl354_0; clear hi354_0 hl354_0; replace p354 := eq_true p354; replace q354 := eq_true q354; obtain ⟨hcz31_0, hcz31_1, hcz31_2, hfz31_0, hfz31_1, hfz31_2⟩ := cel3 BK345))
                     refine bodyPost_ret (results_ct rfl _ _ gb345 95 #[.int .i64 0, .int .i64 0, .int .i64 0] (0, 0) _ rfl xq36 Try.underlying95 rfl (by kernel_rfl)) rfl ?_
                     exact ⟨xq2, belA⟩
                 · rw [if_neg c23] at H; exact absurd H (by simp)
               · replace c22 := Bool.eq_false_iff.mpr c22; subst c22; have H1 : (some (0, 0, 0, false)) = some (r1, r2, r3, r4) := by rw [if_neg (show ¬ (false = true) by decide)] at H; exact H
                 clear H; have H := H1; clear H1; simp only [Option.some.injEq, Prod.mk.injEq] at H; obtain ⟨rfl, rfl, rfl, rfl⟩ := H; have p351 : 0 ≤ (x21_1 : Int) := odA; have q351 : x21_1 < (l1.length : Int) := odA; obtain ⟨ad351, A351_0, c351_0, e351, hx351_0, hl351_0, hi351_0⟩ := at_L3 HR1.out x21_1 p351 q351
                 cases e351
                 try replace hx351_0 := cB HB hx351_0
                 have HR351_0 := Aside0.mk hi351_0; have HC351_0 := Aside0.mk hl351_0; clear hi351_0 hl351_0; replace p351 := eq_true p351; replace q351 := eq_true q351; go_wp2_with (first | ((with_reducible refine gate_callee (f := 67) rfl ?_); refine goesL_ (some 27) rfl rfl Try.func67 (by kernel_rfl) rfl #[.int .i64 ((rd_L3 l1 x21_1).length : Int)] rfl xq1 ?_; (with_reducible refine (impl_logOf.calls k1 ((rd_L3 l1 x21_1).length : Int) t352 _ A13.out).mono ?_); rintro e w' ⟨rfl, ⟨nd, rfl⟩⟩; refine ⟨_, rfl, ?_⟩; (try (rw [drewN_self wr]; generalize hq_ : World.drewN wr _ = wr; have n0_ : Aside0 (wr.heap[gb345]? = some (.cells #[.int .i64 x346000_1, .int .i64 x346001_1, .int .i64 x346002_1] 95 (0, 0))) := ⟨xq17⟩; have n1_ : Aside0 (wr.heap[gb350]? = some (.cells #[.int .i64 t346, .int .i64 t347, .int .i64 t348] 95 (0, 0))) := ⟨xq17⟩; have n2_ : Aside0 (Below w.heap.size w wr) := ⟨xq26⟩; have hcy0_0 : wr.cell? ⟨gb345, 0, none⟩ = some (.int .i64 x346000_1) := (blk_cell n0_.out 0).trans rfl; have hfy0_0 := blk_frozen n0_.out 0; have hcy0_1 : wr.cell? ⟨gb345, 1, none⟩ = some (.int .i64 x346001_1) := (blk_cell n0_.out 1).trans rfl; have hfy0_1 := blk_frozen n0_.out 1; have hcy0_2 : wr.cell? ⟨gb345, 2, none⟩ = some (.int .i64 x346002_1) := (blk_cell n0_.out 2).trans rfl; have hfy0_2 := blk_frozen n0_.out 2; have hcy1_0 : wr.cell? ⟨gb350, 0, none⟩ = some (.int .i64 t346) := (blk_cell n1_.out 0).trans rfl; have hfy1_0 := blk_frozen n1_.out 0; have hcy1_1 : wr.cell? ⟨gb350, 1, none⟩ = some (.int .i64 t347) := (blk_cell n1_.out 1).trans rfl; have hfy1_1 := blk_frozen n1_.out 1; have hcy1_2 : wr.cell? ⟨gb350, 2, none⟩ = some (.int .i64 t348) := (blk_cell n1_.out 2).trans rfl; have hfy1_2 := blk_frozen n1_.out 2; clear BK345 BK350 HB hq_; have BK345 := n0_; have BK350 := n1_; have HB := n2_; clear n0_ n1_ n2_)); have hnb32 := NB350_345.out; have hnc32 := NB345_350.out; obtain ⟨hcz33_0, hcz33_1, hcz33_2, hfz33_0, hfz33_1, hfz33_2⟩ := cel3 BK350) | (go_at_call 121; (with_reducible refine (impl_field_areElements.calls k1 t346 t347 t348 _ _ (rd_L3 l1 x21_1) false _ ?side1 ?side2 A21.out).mono ?_); (case side1 => exact cA (Kd.C_below HR351_0.out HB.out)); (case side2 => exact HC351_0.out); rintro e w34 ⟨rfl, hb⟩; replace BK345 := bB BK345 hb; replace BK350 := bB BK350 hb; replace HB := bS hb; (try clear hb); (try clear hb2); (try clear hk); (try clear hi); obtain ⟨hcz35_0, hcz35_1, hcz35_2, hfz35_0, hfz35_1, hfz35_2⟩ := cel3 BK345))
                 refine bodyPost_ret (results_ct rfl _ _ gb345 95 #[.int .i64 0, .int .i64 0, .int .i64 0] (0, 0) _ rfl xq36 Try.underlying95 rfl (by kernel_rfl)) rfl ?_
                 exact ⟨xq2, belA⟩
         · rw [if_neg c12] at H; exact absurd H (by simp)
       · rw [if_neg c11] at H; exact absurd H (by simp)
     · rw [if_neg c10] at H; have c10b0 := decide_eq_false c10; clear c10; simp only [Option.some.injEq, Prod.mk.injEq] at H; obtain ⟨rfl, rfl, rfl, rfl⟩ := H; have hnb36 := NB350_345.out; have hnc36 := NB345_350.out; obtain ⟨hcz37_0, hcz37_1, hcz37_2, hfz37_0, hfz37_1, hfz37_2⟩ := cel3 BK350; obtain ⟨hcz38_0, hcz38_1, hcz38_2, hfz38_0, hfz38_1, hfz38_2⟩ := cel3 BK345; go_wp2
       refine bodyPost_ret (results_ct rfl _ _ gb345 95 #[.int .i64 t346, .int .i64 t347, .int .i64 t348] (0, 0) _ rfl (by (with_reducible repeat (first | refine blk_drewN ?_ _ | refine blk_drew ?_ | refine blk_alloc ?_ _)); refine blk_put (cs := #[.int .i64 t346, .int .i64 t347, .int .i64 x346002_1]) ?_ 2 _ rfl; (with_reducible repeat (first | refine blk_drewN ?_ _ | refine blk_drew ?_ | refine blk_alloc ?_ _)); refine blk_put (cs := #[.int .i64 t346, .int .i64 x346001_1, .int .i64 x346002_1]) ?_ 1 _ rfl; (with_reducible repeat (first | refine blk_drewN ?_ _ | refine blk_drew ?_ | refine blk_alloc ?_ _)); refine blk_put (cs := #[.int .i64 x346000_1, .int .i64 x346001_1, .int .i64 x346002_1]) ?_ 0 _ rfl; (with_reducible repeat (first | refine blk_drewN ?_ _ | refine blk_drew ?_ | refine blk_alloc ?_ _)); exact BK345.out) Try.underlying95 rfl (by kernel_rfl)) rfl ?_
       exact ⟨xq2, belA⟩
 · replace c4 := Bool.eq_false_iff.mpr c4; subst c4; have H1 : (some (0, 0, 0, false)) = some (r1, r2, r3, r4) := by rw [if_neg (show ¬ (false = true) by decide)] at H; exact H
   clear H; have H := H1; clear H1; simp only [Option.some.injEq, Prod.mk.injEq] at H; obtain ⟨rfl, rfl, rfl, rfl⟩ := H; go_enter Try.func69, Try.ntmps69
   go_wp2_with (first | ((with_reducible refine gate_dst (N := 4) rfl ?_); (try (refine gate_guard (by rfl) ?_; dsimp only)); refine boxA 4 #[.int .i64 0, .int .i64 0, .int .i64 0] 95 ?_; intro gb345 hg w39 hbox hb; have BK345 := Aside0.mk hbox; have GW345 := leA (w := w) hg; have GE345 := leA (w := w) hg; replace HB := bS hb; clear hb hbox hg) | ((with_reducible refine gate_callee (f := 84) rfl ?_); refine goesL_ (some 13) rfl rfl Try.func84 (by kernel_rfl) rfl #[.int .i64 a0] rfl xq1 ?_; (with_reducible refine (impl_fieldOf.calls a0 t346 t347 t348 false _ A3.out).mono ?_); rintro e w40 ⟨rfl, hb⟩; refine ⟨_, rfl, ?_⟩; replace BK345 := bB BK345 hb; replace HB := bS hb; (try clear hb); (try clear hb2); (try clear hk); (try clear hi)) | ((with_reducible refine gate_dst (N := 6) rfl ?_); (try (refine gate_guard (by rfl) ?_; dsimp only)); refine boxA 6 #[.int .i64 0, .int .i64 0, .int .i64 0] 95 ?_; intro gb350 hg w41 hbox hb; have BK350 := Aside0.mk hbox; have GW350 := leA (w := w) hg; have GE350 := leA (w := w) hg; have NB345_350 := neL hg BK345; have NB350_345 := neG hg BK345; replace BK345 := bB BK345 hb; replace HB := bS hb; clear hb hbox hg; have hnb42 := NB350_345.out; have hnc42 := NB345_350.out; obtain ⟨hcz43_0, hcz43_1, hcz43_2, hfz43_0, hfz43_1, hfz43_2⟩ := cel3 BK350; obtain ⟨hcz44_0, hcz44_1, hcz44_2, hfz44_0, hfz44_1, hfz44_2⟩ := cel3 BK345))
   refine bodyPost_ret (results_ct rfl _ _ gb345 95 #[.int .i64 0, .int .i64 0, .int .i64 0] (0, 0) _ rfl (by (with_reducible repeat (first | refine blk_drewN ?_ _ | refine blk_drew ?_ | refine blk_alloc ?_ _)); refine blk_put (cs := #[.int .i64 0, .int .i64 0, .int .i64 0]) ?_ 2 _ rfl; (with_reducible repeat (first | refine blk_drewN ?_ _ | refine blk_drew ?_ | refine blk_alloc ?_ _)); refine blk_put (cs := #[.int .i64 0, .int .i64 0, .int .i64 0]) ?_ 1 _ rfl; (with_reducible repeat (first | refine blk_drewN ?_ _ | refine blk_drew ?_ | refine blk_alloc ?_ _)); refine blk_put (cs := #[.int .i64 0, .int .i64 0, .int .i64 0]) ?_ 0 _ rfl; (with_reducible repeat (first | refine blk_drewN ?_ _ | refine blk_drew ?_ | refine blk_alloc ?_ _)); refine blk_far ?_ NB345_350.out _; (with_reducible repeat (first | refine blk_drewN ?_ _ | refine blk_drew ?_ | refine blk_alloc ?_ _)); refine blk_far ?_ NB345_350.out _; (with_reducible repeat (first | refine blk_drewN ?_ _ | refine blk_drew ?_ | refine blk_alloc ?_ _)); refine blk_far ?_ NB345_350.out _; (with_reducible repeat (first | refine blk_drewN ?_ _ | refine blk_drew ?_ | refine blk_alloc ?_ _)); exact BK345.out) Try.underlying95 rfl (by kernel_rfl)) rfl ?_
   exact ⟨xq2, belA⟩

/-! ### impl_isStep: function 70 -/
def impl_isStep.f (a0_0 : Int) (a0_1 : Int) (a0_2 : Int) (a1 : Int) : Option (Bool) := if a0_0 ≥ 0 then (if a0_0 < a1 then (if a0_1 ≥ 0 then (if a0_1 < a0_2 then (if 0 ≤ (wrap64 (a1 - 1)) then (some (decide (a0_2 ≤ (shl .i64 1 (wrap64 (a1 - 1)))))) else (none)) else (some false)) else (some false)) else (some false)) else (some false)
set_option maxHeartbeats 8000000 in
set_option maxRecDepth 100000 in
theorem impl_isStep.calls (a0_0 : Int) (a0_1 : Int) (a0_2 : Int) (a1 : Int) (r : Bool) (w : World) (h : impl_isStep.f a0_0 a0_1 a0_2 a1 = some r) :
 Calls Try.prog 70 #[.agg #[.int .i64 a0_0, .int .i64 a0_1, .int .i64 a0_2], .int .i64 a1] w fun e w' => e = .returned (.bool r) ∧ Below w.heap.size w w' := by
 have hu36 := Try.underlying36; have HB := Aside0.mk (Below.refl w.heap.size w); have H : (if a0_0 ≥ 0 then (if a0_0 < a1 then (if a0_1 ≥ 0 then (if a0_1 < a0_2 then (if 0 ≤ (wrap64 (a1 - 1)) then (some (decide (a0_2 ≤ (shl .i64 1 (wrap64 (a1 - 1)))))) else (none)) else (some false)) else (some false)) else (some false)) else (some false)) = some r := h; clear h
 by_cases c3 : a0_0 ≥ 0
 · rw [if_pos c3] at H; have c3b0 := decide_eq_true c3; clear c3
   by_cases c4 : a0_0 < a1
   · rw [if_pos c4] at H; have c4b0 := decide_eq_true c4; clear c4
     by_cases c5 : a0_1 ≥ 0
     · rw [if_pos c5] at H; have c5b0 := decide_eq_true c5; clear c5
       by_cases c6 : a0_1 < a0_2
       · rw [if_pos c6] at H; have c6b0 := decide_eq_true c6; clear c6; obtain ⟨ji7, hji7⟩ : ∃ j_ : Int, (wrap64 (a1 - 1)) = j_ := ⟨_, rfl⟩; replace H : (if 0 ≤ (ji7) then (some (decide (a0_2 ≤ (shl .i64 1 (ji7))))) else (none)) = some r := by first | (rw [hji7] at H; exact H) | (simp only [hji7] at H ⊢; exact H)
         have hji7w : (IntKind.i64.wrap (a1 - 1)) = ji7 := (i64_w _).trans hji7
         by_cases c8 : 0 ≤ (ji7)
         · rw [if_pos c8] at H; have c8b0 := eq_true c8; have c8b1 : decide (0 ≤ (ji7)) = true := decide_eq_true c8; clear c8; obtain ⟨ji9, hji9⟩ : ∃ j_ : Int, (shl .i64 1 (ji7)) = j_ := ⟨_, rfl⟩; replace H : (some (decide (a0_2 ≤ (ji9)))) = some r := by first | (rw [hji9] at H; exact H) | (simp only [hji9] at H ⊢; exact H)
           have hji9_ : (IntKind.i64.wrap (1 * 2 ^ min (ji7).toNat 64)) = ji9 := hji9; have hji9z : (ji7) ≤ 64 → (IntKind.i64.wrap (1 * 2 ^ (ji7).toNat)) = ji9 := shl_small hji9; have hji9u : (IntKind.i64.wrap (2 ^ min (ji7).toNat 64)) = ji9 := by have h_ := hji9_; rw [Int.one_mul] at h_; exact h_
           have hji9v : (ji7) ≤ 64 → (IntKind.i64.wrap (2 ^ (ji7).toNat)) = ji9 := fun hle_ => by have h_ := hji9z hle_; rw [Int.one_mul] at h_; exact h_
           have hji9y : (wrap64 (1 * 2 ^ min (ji7).toNat 64)) = ji9 := (i64_w _).symm.trans hji9_; have hji9x : (ji7) ≤ 64 → (wrap64 (1 * 2 ^ (ji7).toNat)) = ji9 := fun h_ => (i64_w _).symm.trans (hji9z h_)
           obtain rfl := Option.some.inj H; go_enter Try.func70, Try.ntmps70
           go_wp2_with (first | ((with_reducible refine gate_dst (N := 2) rfl ?_); refine boxA 2 #[.int .i64 a0_0, .int .i64 a0_1, .int .i64 a0_2] 36 ?_; intro gb355 hg w10 hbox hb; have BK355 := Aside0.mk hbox; have GW355 := leA (w := w) hg; have GE355 := leA (w := w) hg; replace HB := bS hb; clear hb hbox hg; obtain ⟨hcz11_0, hcz11_1, hcz11_2, hfz11_0, hfz11_1, hfz11_2⟩ := cel3 BK355))
           repeat (go_quiet (first | ((with_reducible refine gate_dst (N := 2) rfl ?_); refine boxA 2 #[.int .i64 a0_0, .int .i64 a0_1, .int .i64 a0_2] 36 ?_; intro gb355 hg w10 hbox hb; have BK355 := Aside0.mk hbox; have GW355 := leA (w := w) hg; have GE355 := leA (w := w) hg; replace HB := bS hb; clear hb hbox hg; obtain ⟨hcz11_0, hcz11_1, hcz11_2, hfz11_0, hfz11_1, hfz11_2⟩ := cel3 BK355)); try go_wp2_with (first | ((with_reducible refine gate_dst (N := 2) rfl ?_); refine boxA 2 #[.int .i64 a0_0, .int .i64 a0_1, .int .i64 a0_2] 36 ?_; intro gb355 hg w10 hbox hb; have BK355 := Aside0.mk hbox; have GW355 := leA (w := w) hg; have GE355 := leA (w := w) hg; replace HB := bS hb; clear hb hbox hg; obtain ⟨hcz11_0, hcz11_1, hcz11_2, hfz11_0, hfz11_1, hfz11_2⟩ := cel3 BK355)))
           go_ret
           exact ⟨xq34, belA⟩
         · rw [if_neg c8] at H; exact absurd H (by simp)
       · rw [if_neg c6] at H; have c6b0 := decide_eq_false c6; clear c6; obtain rfl := Option.some.inj H; go_enter Try.func70, Try.ntmps70
         go_wp2_with (first | ((with_reducible refine gate_dst (N := 2) rfl ?_); refine boxA 2 #[.int .i64 a0_0, .int .i64 a0_1, .int .i64 a0_2] 36 ?_; intro gb355 hg w12 hbox hb; have BK355 := Aside0.mk hbox; have GW355 := leA (w := w) hg; have GE355 := leA (w := w) hg; replace HB := bS hb; clear hb hbox hg; obtain ⟨hcz13_0, hcz13_1, hcz13_2, hfz13_0, hfz13_1, hfz13_2⟩ := cel3 BK355))
         repeat (go_quiet (first | ((with_reducible refine gate_dst (N := 2) rfl ?_); refine boxA 2 #[.int .i64 a0_0, .int .i64 a0_1, .int .i64 a0_2] 36 ?_; intro gb355 hg w12 hbox hb; have BK355 := Aside0.mk hbox; have GW355 := leA (w := w) hg; have GE355 := leA (w := w) hg; replace HB := bS hb; clear hb hbox hg; obtain ⟨hcz13_0, hcz13_1, hcz13_2, hfz13_0, hfz13_1, hfz13_2⟩ := cel3 BK355)); try go_wp2_with (first | ((with_reducible refine gate_dst (N := 2) rfl ?_); refine boxA 2 #[.int .i64 a0_0, .int .i64 a0_1, .int .i64 a0_2] 36 ?_; intro gb355 hg w12 hbox hb; have BK355 := Aside0.mk hbox; have GW355 := leA (w := w) hg; have GE355 := leA (w := w) hg; replace HB := bS hb; clear hb hbox hg; obtain ⟨hcz13_0, hcz13_1, hcz13_2, hfz13_0, hfz13_1, hfz13_2⟩ := cel3 BK355)))
         go_ret
         exact ⟨xq2, belA⟩
     · rw [if_neg c5] at H; have c5b0 := decide_eq_false c5; clear c5; obtain rfl := Option.some.inj H; go_enter Try.func70, Try.ntmps70
       go_wp2_with (first | ((with_reducible refine gate_dst (N := 2) rfl ?_); refine boxA 2 #[.int .i64 a0_0, .int .i64 a0_1, .int .i64 a0_2] 36 ?_; intro gb355 hg w14 hbox hb; have BK355 := Aside0.mk hbox; have GW355 := leA (w := w) hg; have GE355 := leA (w := w) hg; replace HB := bS hb; clear hb hbox hg; obtain ⟨hcz15_0, hcz15_1, hcz15_2, hfz15_0, hfz15_1, hfz15_2⟩ := cel3 BK355))
       repeat (go_quiet (first | ((with_reducible refine gate_dst (N := 2) rfl ?_); refine boxA 2 #[.int .i64 a0_0, .int .i64 a0_1, .int .i64 a0_2] 36 ?_; intro gb355 hg w14 hbox hb; have BK355 := Aside0.mk hbox; have GW355 := leA (w := w) hg; have GE355 := leA (w := w) hg; replace HB := bS hb; clear hb hbox hg; obtain ⟨hcz15_0, hcz15_1, hcz15_2, hfz15_0, hfz15_1, hfz15_2⟩ := cel3 BK355)); try go_wp2_with (first | ((with_reducible refine gate_dst (N := 2) rfl ?_); refine boxA 2 #[.int .i64 a0_0, .int .i64 a0_1, .int .i64 a0_2] 36 ?_; intro gb355 hg w14 hbox hb; have BK355 := Aside0.mk hbox; have GW355 := leA (w := w) hg; have GE355 := leA (w := w) hg; replace HB := bS hb; clear hb hbox hg; obtain ⟨hcz15_0, hcz15_1, hcz15_2, hfz15_0, hfz15_1, hfz15_2⟩ := cel3 BK355)))
       go_ret
       exact ⟨xq2, belA⟩
   · rw [if_neg c4] at H; have c4b0 := decide_eq_false c4; clear c4; obtain rfl := Option.some.inj H; go_enter Try.func70, Try.ntmps70
     go_wp2_with (first | ((with_reducible refine gate_dst (N := 2) rfl ?_); refine boxA 2 #[.int .i64 a0_0, .int .i64 a0_1, .int .i64 a0_2] 36 ?_; intro gb355 hg w16 hbox hb; have BK355 := Aside0.mk hbox; have GW355 := leA (w := w) hg; have GE355 := leA (w := w) hg; replace HB := bS hb; clear hb hbox hg; obtain ⟨hcz17_0, hcz17_1, hcz17_2, hfz17_0, hfz17_1, hfz17_2⟩ := cel3 BK355))
     repeat (go_quiet (first | ((with_reducible refine gate_dst (N := 2) rfl ?_); refine boxA 2 #[.int .i64 a0_0, .int .i64 a0_1, .int .i64 a0_2] 36 ?_; intro gb355 hg w16 hbox hb; have BK355 := Aside0.mk hbox; have GW355 := leA (w := w) hg; have GE355 := leA (w := w) hg; replace HB := bS hb; clear hb hbox hg; obtain ⟨hcz17_0, hcz17_1, hcz17_2, hfz17_0, hfz17_1, hfz17_2⟩ := cel3 BK355)); try go_wp2_with (first | ((with_reducible refine gate_dst (N := 2) rfl ?_); refine boxA 2 #[.int .i64 a0_0, .int .i64 a0_1, .int .i64 a0_2] 36 ?_; intro gb355 hg w16 hbox hb; have BK355 := Aside0.mk hbox; have GW355 := leA (w := w) hg; have GE355 := leA (w := w) hg; replace HB := bS hb; clear hb hbox hg; obtain ⟨hcz17_0, hcz17_1, hcz17_2, hfz17_0, hfz17_1, hfz17_2⟩ := cel3 BK355)))
     go_ret
     exact ⟨xq2, belA⟩
 · rw [if_neg c3] at H; have c3b0 := decide_eq_false c3; clear c3; obtain rfl := Option.some.inj H; go_enter Try.func70, Try.ntmps70
   go_wp2_with (first | ((with_reducible refine gate_dst (N := 2) rfl ?_); refine boxA 2 #[.int .i64 a0_0, .int .i64 a0_1, .int .i64 a0_2] 36 ?_; intro gb355 hg w18 hbox hb; have BK355 := Aside0.mk hbox; have GW355 := leA (w := w) hg; have GE355 := leA (w := w) hg; replace HB := bS hb; clear hb hbox hg; obtain ⟨hcz19_0, hcz19_1, hcz19_2, hfz19_0, hfz19_1, hfz19_2⟩ := cel3 BK355))
   repeat (go_quiet (first | ((with_reducible refine gate_dst (N := 2) rfl ?_); refine boxA 2 #[.int .i64 a0_0, .int .i64 a0_1, .int .i64 a0_2] 36 ?_; intro gb355 hg w18 hbox hb; have BK355 := Aside0.mk hbox; have GW355 := leA (w := w) hg; have GE355 := leA (w := w) hg; replace HB := bS hb; clear hb hbox hg; obtain ⟨hcz19_0, hcz19_1, hcz19_2, hfz19_0, hfz19_1, hfz19_2⟩ := cel3 BK355)); try go_wp2_with (first | ((with_reducible refine gate_dst (N := 2) rfl ?_); refine boxA 2 #[.int .i64 a0_0, .int .i64 a0_1, .int .i64 a0_2] 36 ?_; intro gb355 hg w18 hbox hb; have BK355 := Aside0.mk hbox; have GW355 := leA (w := w) hg; have GE355 := leA (w := w) hg; replace HB := bS hb; clear hb hbox hg; obtain ⟨hcz19_0, hcz19_1, hcz19_2, hfz19_0, hfz19_1, hfz19_2⟩ := cel3 BK355)))
   go_ret
   exact ⟨xq2, belA⟩

/-! ### impl_field_mul: function 123 -/
def impl_field_mul.f (a0_0 : Int) (a0_1 : Int) (a0_2 : Int) (a1 : Int) (a2 : Int) : Option (Int) := if a0_0 = 0 then (none) else (some (Int.tmod (wrap64 (a1 * a2)) a0_0))
set_option maxHeartbeats 8000000 in
set_option maxRecDepth 100000 in
theorem impl_field_mul.calls (a0_0 : Int) (a0_1 : Int) (a0_2 : Int) (a1 : Int) (a2 : Int) (r : Int) (w : World) (h : impl_field_mul.f a0_0 a0_1 a0_2 a1 a2 = some r) :
 Calls Try.prog 123 #[.agg #[.int .i64 a0_0, .int .i64 a0_1, .int .i64 a0_2], .int .i64 a1, .int .i64 a2] w fun e w' => e = .returned (.int .i64 r) ∧ Below w.heap.size w w' := by
 have hu95 := Try.underlying95; have HB := Aside0.mk (Below.refl w.heap.size w); have H : (if a0_0 = 0 then (none) else (some (Int.tmod (wrap64 (a1 * a2)) a0_0))) = some r := h; clear h
 by_cases c4 : a0_0 = 0
 · rw [if_pos c4] at H; exact absurd H (by simp)
 · rw [if_neg c4] at H; have c4b0 : (a0_0 == 0) = false := beq_eq_false_iff_ne.mpr c4; have c4b1 : (a0_0 != 0) = true := bne_iff_ne.mpr c4; obtain rfl := Option.some.inj H; go_enter Try.func123, Try.ntmps123
   go_wp2_with (first | ((with_reducible refine gate_dst (N := 3) rfl ?_); refine boxA 3 #[.int .i64 a0_0, .int .i64 a0_1, .int .i64 a0_2] 95 ?_; intro gb356 hg w5 hbox hb; have BK356 := Aside0.mk hbox; have GW356 := leA (w := w) hg; have GE356 := leA (w := w) hg; replace HB := bS hb; clear hb hbox hg; obtain ⟨hcz6_0, hcz6_1, hcz6_2, hfz6_0, hfz6_1, hfz6_2⟩ := cel3 BK356))
   go_ret
   exact ⟨xq2, belA⟩

/-! ### impl_field_power: function 124 -/
def impl_field_power.l0 : Nat → Int → Int → Int → Int → Int → Int → Option (Int)
 | 0, _, _, _, _, _, _ => none
 | k + 1, x1, x2, x7, x358000, x358001, x358002 => if x2 > 0 then (if (Int.tmod x2 2) = 1 then ((impl_field_mul.f x358000 x358001 x358002 x7 x1).bind fun t358 => ((impl_field_mul.f x358000 x358001 x358002 x1 x1).bind fun t359 => (impl_field_power.l0 k t359 (wrap64 (Int.tdiv x2 2)) t358 x358000 x358001 x358002))) else ((impl_field_mul.f x358000 x358001 x358002 x1 x1).bind fun t360 => (impl_field_power.l0 k t360 (wrap64 (Int.tdiv x2 2)) x7 x358000 x358001 x358002))) else (some x7)
def impl_field_power.f (k : Nat) (a0_0 : Int) (a0_1 : Int) (a0_2 : Int) (a1 : Int) (a2 : Int) : Option (Int) := impl_field_power.l0 k a1 a2 1 a0_0 a0_1 a0_2
theorem impl_field_power.mono_l : ∀ k, (∀ y0 y1 y2 y3 y4 y5, LeO (impl_field_power.l0 k y0 y1 y2 y3 y4 y5) (impl_field_power.l0 (k + 1) y0 y1 y2 y3 y4 y5))
 | 0 => fun _ _ _ _ _ _ r h => by simp [impl_field_power.l0] at h
 | k + 1 => by
  have ih0 := impl_field_power.mono_l k
  · intro y0 y1 y2 y3 y4 y5
    unfold impl_field_power.l0
    repeat' first
    | (with_reducible exact ih0 _ _ _ _ _ _)
    | (with_reducible exact LeO.refl _)
    | (with_reducible exact LeO.none _)
    | (with_reducible refine LeO.ite ?_ ?_)
    | (with_reducible refine LeO.bind ?_ (fun _ => ?_))
    | exact ih0 _ _ _ _ _ _
    | exact LeO.none _
    | refine LeO.ite ?_ ?_
    | refine LeO.bind ?_ (fun _ => ?_)
theorem impl_field_power.mono : ∀ a0 a1 a2 a3 a4 k, LeO (impl_field_power.f k a0 a1 a2 a3 a4) (impl_field_power.f (k + 1) a0 a1 a2 a3 a4) := by
 intro a0 a1 a2 a3 a4 k; have ih0 := impl_field_power.mono_l k
 unfold impl_field_power.f
 repeat' first
  | (with_reducible exact ih0 _ _ _ _ _ _)
  | (with_reducible exact LeO.refl _)
  | (with_reducible exact LeO.none _)
  | (with_reducible refine LeO.ite ?_ ?_)
  | (with_reducible refine LeO.bind ?_ (fun _ => ?_))
  | exact ih0 _ _ _ _ _ _
  | exact LeO.none _
  | refine LeO.ite ?_ ?_
  | refine LeO.bind ?_ (fun _ => ?_)
set_option maxHeartbeats 8000000 in
set_option maxRecDepth 100000 in
theorem impl_field_power.calls (k : Nat) (a0_0 : Int) (a0_1 : Int) (a0_2 : Int) (a1 : Int) (a2 : Int) (r : Int) (w : World) (h : impl_field_power.f k a0_0 a0_1 a0_2 a1 a2 = some r) :
 Calls Try.prog 124 #[.agg #[.int .i64 a0_0, .int .i64 a0_1, .int .i64 a0_2], .int .i64 a1, .int .i64 a2] w fun e w' => e = .returned (.int .i64 r) ∧ Below w.heap.size w w' := by
 have hu95 := Try.underlying95; have HB := Aside0.mk (Below.refl w.heap.size w); have H : (impl_field_power.l0 k a1 a2 1 a0_0 a0_1 a0_2) = some r := h; clear h; have H' := Aside0.mk H; clear H; go_enter Try.func124, Try.ntmps124
 go_wp2_with (first | ((with_reducible refine gate_dst (N := 3) rfl ?_); refine boxA 3 #[.int .i64 a0_0, .int .i64 a0_1, .int .i64 a0_2] 95 ?_; intro gb357 hg w4 hbox hb; have BK357 := Aside0.mk hbox; have GW357 := leA (w := w) hg; have GE357 := leA (w := w) hg; replace HB := bS hb; clear hb hbox hg))
 go_loopg [1, 2, 7] k (fun kq v1 v2 v7 w' => ∃ (x1_1 : Int) (x2_1 : Int) (x7_1 : Int), v1 = .int .i64 x1_1 ∧ v2 = .int .i64 x2_1 ∧ v7 = .int .i64 x7_1 ∧ Aside0 (impl_field_power.l0 kq x1_1 x2_1 x7_1 a0_0 a0_1 a0_2 = some r) ∧ Aside0 (kq ≤ k) ∧ Aside0 (w'.heap[gb357]? = some (.cells #[.int .i64 a0_0, .int .i64 a0_1, .int .i64 a0_2] 95 (0, 0))) ∧ Aside0 (Below w.heap.size w w'))
 case atStart => exact ⟨(a1), (a2), (1), eqA, eqA, eqA, H', ⟨Nat.le_refl _⟩, ⟨blkA⟩, ⟨belA⟩⟩
 case round =>
  clear H'; obtain ⟨x1_1, x2_1, x7_1, rfl, rfl, rfl, HA, HK1, BK357, HB⟩ := hrel
  cases gk with
  | zero => exact absurd HA.out (by simp [impl_field_power.l0])
  | succ k1 =>
   have H := HA.out; clear HA; simp only [impl_field_power.l0] at H
   by_cases c5 : x2_1 > 0
   · rw [if_pos c5] at H; have c5b0 := decide_eq_true c5; clear c5
     by_cases c6 : (Int.tmod x2_1 2) = 1
     · rw [if_pos c6] at H; have c6b0 : ((Int.tmod x2_1 2) == 1) = true := beq_iff_eq.mpr c6; have c6b1 : ((Int.tmod x2_1 2) != 1) = false := bne_eq_false_iff_eq.mpr c6; clear c6; replace H := Option.bind_eq_some_iff.mp H; obtain ⟨t358, A70, H⟩ := H; replace H : ((impl_field_mul.f a0_0 a0_1 a0_2 x1_1 x1_1).bind fun t359 => (impl_field_power.l0 k1 t359 (wrap64 (Int.tdiv x2_1 2)) t358 a0_0 a0_1 a0_2)) = some r := H
       have A7 := Aside0.mk A70; clear A70; replace H := Option.bind_eq_some_iff.mp H; obtain ⟨t359, A80, H⟩ := H; replace H : (impl_field_power.l0 k1 t359 (wrap64 (Int.tdiv x2_1 2)) t358 a0_0 a0_1 a0_2) = some r := H
       have A8 := Aside0.mk A80; clear A80; have H' := Aside0.mk H; clear H; obtain ⟨hcz9_0, hcz9_1, hcz9_2, hfz9_0, hfz9_1, hfz9_2⟩ := cel3 BK357; go_wp2_with (first | ((with_reducible refine gate_callee (f := 123) rfl ?_); refine goesL_ (some 18) rfl rfl Try.func123 (by kernel_rfl) rfl #[.agg #[.int .i64 a0_0, .int .i64 a0_1, .int .i64 a0_2], .int .i64 x7_1, .int .i64 x1_1] rfl xq1 ?_; (with_reducible refine (impl_field_mul.calls a0_0 a0_1 a0_2 x7_1 x1_1 t358 _ A7.out).mono ?_); rintro e w10 ⟨rfl, hb⟩; refine ⟨_, rfl, ?_⟩; replace BK357 := bB BK357 hb; replace HB := bS hb; (try clear hb); (try clear hb2); (try clear hk); (try clear hi); obtain ⟨hcz11_0, hcz11_1, hcz11_2, hfz11_0, hfz11_1, hfz11_2⟩ := cel3 BK357) | ((with_reducible refine gate_callee (f := 123) rfl ?_); refine goesL_ (some 22) rfl rfl Try.func123 (by kernel_rfl) rfl #[.agg #[.int .i64 a0_0, .int .i64 a0_1, .int .i64 a0_2], .int .i64 x1_1, .int .i64 x1_1] rfl xq1 ?_; (with_reducible refine (impl_field_mul.calls a0_0 a0_1 a0_2 x1_1 x1_1 t359 _ A8.out).mono ?_); rintro e w12 ⟨rfl, hb⟩; refine ⟨_, rfl, ?_⟩; replace BK357 := bB BK357 hb; replace HB := bS hb; (try clear hb); (try clear hb2); (try clear hk); (try clear hi)))
       go_roundg k1
       case measure => have := HK1.out; omega
       case rel => exact ⟨(t359), (wrap64 (Int.tdiv x2_1 2)), (t358), eqA, eqA, eqA, H', ⟨xq12⟩, ⟨blkA⟩, ⟨belA⟩⟩
     · rw [if_neg c6] at H; have c6b0 : ((Int.tmod x2_1 2) == 1) = false := beq_eq_false_iff_ne.mpr c6; have c6b1 : ((Int.tmod x2_1 2) != 1) = true := bne_iff_ne.mpr c6; replace H := Option.bind_eq_some_iff.mp H; obtain ⟨t360, A130, H⟩ := H; replace H : (impl_field_power.l0 k1 t360 (wrap64 (Int.tdiv x2_1 2)) x7_1 a0_0 a0_1 a0_2) = some r := H
       have A13 := Aside0.mk A130; clear A130; have H' := Aside0.mk H; clear H; obtain ⟨hcz14_0, hcz14_1, hcz14_2, hfz14_0, hfz14_1, hfz14_2⟩ := cel3 BK357; go_wp2_with (first | ((with_reducible refine gate_callee (f := 123) rfl ?_); refine goesL_ (some 22) rfl rfl Try.func123 (by kernel_rfl) rfl #[.agg #[.int .i64 a0_0, .int .i64 a0_1, .int .i64 a0_2], .int .i64 x1_1, .int .i64 x1_1] rfl xq1 ?_; (with_reducible refine (impl_field_mul.calls a0_0 a0_1 a0_2 x1_1 x1_1 t360 _ A13.out).mono ?_); rintro e w15 ⟨rfl, hb⟩; refine ⟨_, rfl, ?_⟩; replace BK357 := bB BK357 hb; replace HB := bS hb; (try clear hb); (try clear hb2); (try clear hk); (try clear hi)))
       go_roundg k1
       case measure => have := HK1.out; omega
       case rel => exact ⟨(t360), (wrap64 (Int.tdiv x2_1 2)), (x7_1), eqA, eqA, eqA, H', ⟨xq12⟩, ⟨blkA⟩, ⟨belA⟩⟩
   · rw [if_neg c5] at H; have c5b0 := decide_eq_false c5; clear c5; obtain rfl := Option.some.inj H; go_wp2
     go_ret
     exact ⟨xq2, belA⟩

/-! ### impl_field_root: function 122 -/
def impl_field_root.f (k : Nat) (a0_0 : Int) (a0_1 : Int) (a0_2 : Int) (a1 : Int) : Option (Int) := if 0 ≤ a1 then ((impl_field_power.f k a0_0 a0_1 a0_2 a0_1 (shr .i64 (wrap64 (a0_0 - 1)) a1)).bind fun t362 => (some t362)) else (none)
theorem impl_field_root.mono : ∀ a0 a1 a2 a3 k, LeO (impl_field_root.f k a0 a1 a2 a3) (impl_field_root.f (k + 1) a0 a1 a2 a3) := by
 intro a0 a1 a2 a3 k
 unfold impl_field_root.f
 repeat' first
  | (with_reducible exact impl_field_power.mono _ _ _ _ _ _)
  | (with_reducible exact LeO.refl _)
  | (with_reducible exact LeO.none _)
  | (with_reducible refine LeO.ite ?_ ?_)
  | (with_reducible refine LeO.bind ?_ (fun _ => ?_))
  | exact impl_field_power.mono _ _ _ _ _ _
  | exact LeO.none _
  | refine LeO.ite ?_ ?_
  | refine LeO.bind ?_ (fun _ => ?_)
def impl_field_root.T1 : Bool × List (List Nat × List Nat) := (true, [([], []), ([], []), ([1], [1]), ([], []), ([3], [3]), ([4], [4]), ([], []), ([5, 6], [5, 6]), ([0, 2, 7], [0, 2, 7]), ([8, 8, 0, 1, 2, 3, 4, 5, 6, 7, 8], [8])])
def impl_field_root.B1 : List Nat := [0, 0, 2, 0, 8, 24, 0, 120, 255, 511]
theorem impl_field_root.tab1 : rtab .any (opsOf Try.f122 1) = impl_field_root.T1 := by kernel_rfl
theorem impl_field_root.bits1 : waitsOk impl_field_root.T1.2 impl_field_root.B1 = true := by kernel_rfl
set_option maxHeartbeats 8000000 in
set_option maxRecDepth 100000 in
theorem impl_field_root.calls (k : Nat) (a0_0 : Int) (a0_1 : Int) (a0_2 : Int) (a1 : Int) (r : Int) (w : World) (h : impl_field_root.f k a0_0 a0_1 a0_2 a1 = some r) :
 Calls Try.prog 122 #[.agg #[.int .i64 a0_0, .int .i64 a0_1, .int .i64 a0_2], .int .i64 a1] w fun e w' => e = .returned (.int .i64 r) ∧ Below w.heap.size w w' := by
 have hu95 := Try.underlying95; have HB := Aside0.mk (Below.refl w.heap.size w); have H : (if 0 ≤ a1 then ((impl_field_power.f k a0_0 a0_1 a0_2 a0_1 (shr .i64 (wrap64 (a0_0 - 1)) a1)).bind fun t362 => (some t362)) else (none)) = some r := h; clear h
 by_cases c3 : 0 ≤ a1
 · rw [if_pos c3] at H; have c3b0 := eq_true c3; have c3b1 : decide (0 ≤ a1) = true := decide_eq_true c3; clear c3; obtain ⟨ji4, hji4⟩ : ∃ j_ : Int, (shr .i64 (wrap64 (a0_0 - 1)) a1) = j_ := ⟨_, rfl⟩; replace H : ((impl_field_power.f k a0_0 a0_1 a0_2 a0_1 (ji4)).bind fun t362 => (some t362)) = some r := by first | (rw [hji4] at H; exact H) | (simp only [hji4] at H ⊢; exact H)
   have hji4_ : ((wrap64 (a0_0 - 1)) / 2 ^ min a1.toNat 64) = ji4 := hji4; have hji4z : a1 ≤ 64 → ((wrap64 (a0_0 - 1)) / 2 ^ a1.toNat) = ji4 := shr_small hji4; replace H := Option.bind_eq_some_iff.mp H; obtain ⟨t362, A50, H⟩ := H; replace H : (some t362) = some r := H
   have A5 := Aside0.mk A50; clear A50; obtain rfl := Option.some.inj H; go_enter Try.func122, Try.ntmps122
   try go_wp2_with (first | ((with_reducible refine gate_dst (N := 2) rfl ?_); refine boxA 2 #[.int .i64 a0_0, .int .i64 a0_1, .int .i64 a0_2] 95 ?_; intro gb361 hg w6 hbox hb; have BK361 := Aside0.mk hbox; have GW361 := leA (w := w) hg; have GE361 := leA (w := w) hg; replace HB := bS hb; clear hb hbox hg))
   replace BK361 := Aside0.mk (blk_drew BK361.out); replace HB := Aside0.mk (below_drew1 HB.out); refine start_ (n := 10) (S := fun w' => w'.cell? ⟨gb361, 0, none⟩ = some (.int .i64 a0_0) ∧ w'.cell? ⟨gb361, 1, none⟩ = some (.int .i64 a0_1) ∧ w'.cell? ⟨gb361, 2, none⟩ = some (.int .i64 a0_2)) (ds := []) #[false, false, false, false, false, false, false, false, false, false] (by kernel_rfl) rfl rfl ⟨(blk_cell BK361.out 0).trans rfl, (blk_cell BK361.out 1).trans rfl, (blk_cell BK361.out 2).trans rfl⟩ (fun hHeld => ?_); refine with_tabW impl_field_root.tab1 impl_field_root.bits1 (fun HT_ HW_ => ?_)
   generalize w6.drew = w7 at BK361 HB hHeld ⊢
   refine pure_ (i := 1) (N := some 6) (v := ?_) (a' := ?_) #[false, true, false, false, false, false, false, false, false, false] rfl rfl (any_of HT_.out (by kernel_rfl)) (fun _ _ _ h => h) (Or.inl ⟨by rfl, ?_⟩) ?_ ?_
   rotate_left
   · intro w'; go_simp
     with_reducible rfl
   rotate_left
   · simp only [Act.put, sa, sb, sc, i64_w, i32_w]
     rfl
   refine pure_ (i := 3) (N := some 8) (v := ?_) (a' := ?_) #[false, true, false, true, false, false, false, false, false, false] rfl rfl (any_of HT_.out (by kernel_rfl)) (fun _ _ _ h => h) (Or.inl ⟨by rfl, ?_⟩) ?_ ?_
   rotate_left
   · intro w'; go_simp
     with_reducible rfl
   rotate_left
   · simp only [Act.put, sa, sb, sc, i64_w, i32_w]
     rfl
   refine pure_ (i := 6) (N := some 11) (v := ?_) (a' := ?_) #[false, true, false, true, false, false, true, false, false, false] rfl rfl (any_of HT_.out (by kernel_rfl)) (fun _ _ _ h => h) (Or.inl ⟨by rfl, ?_⟩) ?_ ?_
   rotate_left
   · intro w'; go_simp
     with_reducible rfl
   rotate_left
   · simp only [Act.put, sa, sb, sc, i64_w, i32_w]
     rfl
   refine take_ (i := 0) (N := some 5) (v := ?_) (a' := ?_) #[true, true, false, true, false, false, true, false, false, false] rfl rfl (take_ofW HT_.out HW_.out (by kernel_rfl)) (fun _ _ _ h => h) (Or.inl ⟨by rfl, ?_⟩) hHeld ?_ ?_
   rotate_left
   · rintro w' ⟨s0, s1, s2⟩
     go_simp
     with_reducible rfl
   rotate_left
   · simp only [Act.put, sa, sb, sc, i64_w, i32_w]
     rfl
   refine take_ (i := 2) (N := some 7) (v := ?_) (a' := ?_) #[true, true, true, true, false, false, true, false, false, false] rfl rfl (take_ofW HT_.out HW_.out (by kernel_rfl)) (fun _ _ _ h => h) (Or.inl ⟨by rfl, ?_⟩) hHeld ?_ ?_
   rotate_left
   · rintro w' ⟨s0, s1, s2⟩
     go_simp
     with_reducible rfl
   rotate_left
   · simp only [Act.put, sa, sb, sc, i64_w, i32_w]
     rfl
   refine take_ (i := 4) (N := some 9) (v := ?_) (a' := ?_) #[true, true, true, true, true, false, true, false, false, false] rfl rfl (take_ofW HT_.out HW_.out (by kernel_rfl)) (fun _ _ _ h => h) (Or.inl ⟨by rfl, ?_⟩) hHeld ?_ ?_
   rotate_left
   · rintro w' ⟨s0, s1, s2⟩
     go_simp
     with_reducible rfl
   rotate_left
   · simp only [Act.put, sa, sb, sc, i64_w, i32_w]
     rfl
   refine pure_ (i := 5) (N := some 10) (v := ?_) (a' := ?_) #[true, true, true, true, true, true, true, false, false, false] rfl rfl (any_of HT_.out (by kernel_rfl)) (fun _ _ _ h => h) (Or.inl ⟨by rfl, ?_⟩) ?_ ?_
   rotate_left
   · intro w'; go_simp
     with_reducible rfl
   rotate_left
   · simp only [Act.put, sa, sb, sc, i64_w, i32_w]
     rfl
   refine pure_ (i := 7) (N := some 12) (v := ?_) (a' := ?_) #[true, true, true, true, true, true, true, true, false, false] rfl rfl (any_of HT_.out (by kernel_rfl)) (fun _ _ _ h => h) (Or.inl ⟨by rfl, ?_⟩) ?_ ?_
   rotate_left
   · intro w'; go_simp
     with_reducible rfl
   rotate_left
   · simp only [Act.put, sa, sb, sc, i64_w, i32_w]
     rfl
   refine one_ (i := 8) (N := some 13) #[true, true, true, true, true, true, true, true, true, false] rfl rfl (one_of HT_.out (by kernel_rfl)) (by decide) (fun K hK => ?_)
   refine goes_ Try.func124 (by kernel_rfl) rfl #[.agg #[.int .i64 a0_0, .int .i64 a0_1, .int .i64 a0_2], .int .i64 a0_1, .int .i64 ji4] (by rfl) rfl rfl (by (try simp only [List.map_toArray, List.map_cons, List.map_nil]); first | done | (simp only [hji4]; rfl) | rfl | (simp only [List.length_drop, List.length_take]; rfl)) ?_
   with_reducible refine (impl_field_power.calls k a0_0 a0_1 a0_2 a0_1 ji4 t362 _ A5.out).mono ?_
   rintro e w8 ⟨rfl, hb⟩
   refine ⟨_, rfl, ?_⟩
   replace BK361 := bB BK361 hb; replace HB := bS hb; (try clear hb); (try clear hb2); (try clear hk); (try clear hi); refine hK.out _ _ ⟨(blk_cell BK361.out 0).trans rfl, (blk_cell BK361.out 1).trans rfl, (blk_cell BK361.out 2).trans rfl⟩ (fun hHeld => ?_)
   clear hK K; refine norm_ (a' := ?_) ?_ ?_
   rotate_left
   · show Act.put _ (some 13) _ = _
     simp only [Act.put, sa, sb, sc, i64_w, i32_w]
     rfl
   refine pure_ (i := 9) (N := some 4) (v := ?_) (a' := ?_) #[true, true, true, true, true, true, true, true, true, true] rfl rfl (any_of HT_.out (by kernel_rfl)) (fun _ _ _ h => h) (Or.inl ⟨by rfl, ?_⟩) ?_ ?_
   rotate_left
   · intro w'; go_simp
     with_reducible rfl
   rotate_left
   · simp only [Act.put, sa, sb, sc, i64_w, i32_w]
     rfl
   refine done_ (done_of HT_.out (by kernel_rfl)) ?_
   try go_wp2
   go_ret
   exact ⟨by first | rfl | (simp [errW_none, errW_some] <;> rfl) | (simp only [← hji4]; first | rfl | (simp [errW_none, errW_some] <;> rfl)) | (simp [*, errW_none, errW_some] <;> rfl) | (simp [wrap64]; done) | (simp [*, wrap64]; done), belA⟩
 · rw [if_neg c3] at H; exact absurd H (by simp)

/-! ### impl_field_add: function 125 -/
def impl_field_add.f (a0_0 : Int) (a0_1 : Int) (a0_2 : Int) (a1 : Int) (a2 : Int) : Option (Int) := if a0_0 = 0 then (none) else (some (Int.tmod (wrap64 (a1 + a2)) a0_0))
set_option maxHeartbeats 8000000 in
set_option maxRecDepth 100000 in
theorem impl_field_add.calls (a0_0 : Int) (a0_1 : Int) (a0_2 : Int) (a1 : Int) (a2 : Int) (r : Int) (w : World) (h : impl_field_add.f a0_0 a0_1 a0_2 a1 a2 = some r) :
 Calls Try.prog 125 #[.agg #[.int .i64 a0_0, .int .i64 a0_1, .int .i64 a0_2], .int .i64 a1, .int .i64 a2] w fun e w' => e = .returned (.int .i64 r) ∧ Below w.heap.size w w' := by
 have hu95 := Try.underlying95; have HB := Aside0.mk (Below.refl w.heap.size w); have H : (if a0_0 = 0 then (none) else (some (Int.tmod (wrap64 (a1 + a2)) a0_0))) = some r := h; clear h
 by_cases c4 : a0_0 = 0
 · rw [if_pos c4] at H; exact absurd H (by simp)
 · rw [if_neg c4] at H; have c4b0 : (a0_0 == 0) = false := beq_eq_false_iff_ne.mpr c4; have c4b1 : (a0_0 != 0) = true := bne_iff_ne.mpr c4; obtain rfl := Option.some.inj H; go_enter Try.func125, Try.ntmps125
   go_wp2_with (first | ((with_reducible refine gate_dst (N := 3) rfl ?_); refine boxA 3 #[.int .i64 a0_0, .int .i64 a0_1, .int .i64 a0_2] 95 ?_; intro gb363 hg w5 hbox hb; have BK363 := Aside0.mk hbox; have GW363 := leA (w := w) hg; have GE363 := leA (w := w) hg; replace HB := bS hb; clear hb hbox hg; obtain ⟨hcz6_0, hcz6_1, hcz6_2, hfz6_0, hfz6_1, hfz6_2⟩ := cel3 BK363))
   go_ret
   exact ⟨xq2, belA⟩

/-! ### impl_field_sub: function 126 -/
def impl_field_sub.f (a0_0 : Int) (a0_1 : Int) (a0_2 : Int) (a1 : Int) (a2 : Int) : Option (Int) := if a0_0 = 0 then (none) else (some (Int.tmod (wrap64 ((wrap64 (a1 - a2)) + a0_0)) a0_0))
set_option maxHeartbeats 8000000 in
set_option maxRecDepth 100000 in
theorem impl_field_sub.calls (a0_0 : Int) (a0_1 : Int) (a0_2 : Int) (a1 : Int) (a2 : Int) (r : Int) (w : World) (h : impl_field_sub.f a0_0 a0_1 a0_2 a1 a2 = some r) :
 Calls Try.prog 126 #[.agg #[.int .i64 a0_0, .int .i64 a0_1, .int .i64 a0_2], .int .i64 a1, .int .i64 a2] w fun e w' => e = .returned (.int .i64 r) ∧ Below w.heap.size w w' := by
 have hu95 := Try.underlying95; have HB := Aside0.mk (Below.refl w.heap.size w); have H : (if a0_0 = 0 then (none) else (some (Int.tmod (wrap64 ((wrap64 (a1 - a2)) + a0_0)) a0_0))) = some r := h; clear h
 by_cases c4 : a0_0 = 0
 · rw [if_pos c4] at H; exact absurd H (by simp)
 · rw [if_neg c4] at H; have c4b0 : (a0_0 == 0) = false := beq_eq_false_iff_ne.mpr c4; have c4b1 : (a0_0 != 0) = true := bne_iff_ne.mpr c4; obtain rfl := Option.some.inj H; go_enter Try.func126, Try.ntmps126
   go_wp2_with (first | ((with_reducible refine gate_dst (N := 3) rfl ?_); refine boxA 3 #[.int .i64 a0_0, .int .i64 a0_1, .int .i64 a0_2] 95 ?_; intro gb364 hg w5 hbox hb; have BK364 := Aside0.mk hbox; have GW364 := leA (w := w) hg; have GE364 := leA (w := w) hg; replace HB := bS hb; clear hb hbox hg; obtain ⟨hcz6_0, hcz6_1, hcz6_2, hfz6_0, hfz6_1, hfz6_2⟩ := cel3 BK364))
   go_ret
   exact ⟨xq2, belA⟩

end Go.Proofs.Ytbojabmpcfclhaa.PFnPlanAny

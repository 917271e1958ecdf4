-- Written by a program of this session (the print of the kit with contracts of this session's own added)
import Derived.Test.YtbojabmpcfclhaaZFPAx1
import Derived.Test.YtbojabmpcfclhaaZFPAx9
import Derived.Test.YtbojabmpcfclhaaZFPAx10
import Derived.Test.YtbojabmpcfclhaaZFPAx11
import Derived.Test.YtbojabmpcfclhaaZFPAV
import Derived.Test.YtbojabmpcfclhaaZFPAx2
namespace Go.Proofs.Ytbojabmpcfclhaa.PFnPlanAny
open Go.RowKit Go.Proofs.YtbojabmpcfclhaaW.PrintWords Go.Proofs.YtbojabmpcfclhaaW.PrintLast Go.Proofs.YtbojabmpcfclhaaW.PrintMore Go.Proofs.YtbojabmpcfclhaaW.PrintPack
attribute [local go_sem] max2_int min2_int max_two min_two max_three min_three max_four min_four   -- for this text's walks alone
set_option linter.unusedVariables false
set_option linter.unusedSimpArgs false

/-! ### impl_RunStep: function 15 -/
def impl_RunStep.f (k : Nat) (a0 : Int) (l1 : List Int) (a2_0 : Int) (a2_1 : Int) (a2_2 : Int) : Option (List Int × Bool) := (impl_vectorField.f k a0 (([l1] : List (List Int)))).bind fun bt386 => (if bt386.2.2.2 = true then ((impl_logOf.f k (l1.length : Int)).bind fun t391 => ((impl_isStep.f a2_0 a2_1 a2_2 t391).bind fun t392 => (if t392 = true then ((impl_field_runStep.f k bt386.1 bt386.2.1 bt386.2.2.1 l1 a2_0 a2_1 a2_2).bind fun t393 => (some (t393, true))) else (some (([] : List Int), false))))) else (some (([] : List Int), false)))
theorem impl_RunStep.mono : ∀ a0 a1 a2 a3 a4 k, LeO (impl_RunStep.f k a0 a1 a2 a3 a4) (impl_RunStep.f (k + 1) a0 a1 a2 a3 a4) := by
 intro a0 a1 a2 a3 a4 k
 unfold impl_RunStep.f
 repeat' first
  | (with_reducible exact impl_field_runStep.mono _ _ _ _ _ _ _ _)
  | (with_reducible exact impl_logOf.mono _ _)
  | (with_reducible exact impl_vectorField.mono _ _ _)
  | (with_reducible exact LeO.refl _)
  | (with_reducible exact LeO.none _)
  | (with_reducible refine LeO.ite ?_ ?_)
  | (with_reducible refine LeO.bind ?_ (fun _ => ?_))
  | exact impl_field_runStep.mono _ _ _ _ _ _ _ _
  | exact impl_logOf.mono _ _
  | exact impl_vectorField.mono _ _ _
  | exact LeO.none _
  | refine LeO.ite ?_ ?_
  | refine LeO.bind ?_ (fun _ => ?_)
def impl_RunStep.T2 : Bool × List (List Nat × List Nat) := (true, [([], []), ([0], [0]), ([1], [1]), ([2], [2]), ([2], [2]), ([4, 2], [2, 4]), ([5, 2, 2], [2, 5]), ([3, 6, 6, 2], [2, 3, 6]), ([7, 2], [2, 7]), ([2, 8], [2, 8])])
def impl_RunStep.B2 : List Nat := [0, 1, 3, 7, 7, 23, 55, 127, 255, 511]
theorem impl_RunStep.tab2 : rtab .any (opsOf Try.f15 2) = impl_RunStep.T2 := by kernel_rfl
theorem impl_RunStep.bits2 : waitsOk impl_RunStep.T2.2 impl_RunStep.B2 = true := by kernel_rfl
set_option maxHeartbeats 8000000 in
set_option maxRecDepth 100000 in
theorem impl_RunStep.calls (k : Nat) (a0 : Int) (P1_ : Nat → Prop) (A1 : Option Addr) (c1 : Nat) (l1 : List Int) (a2_0 : Int) (a2_1 : Int) (a2_2 : Int) (r1 : List Int) (r2 : Bool) (w : World) (hs1 : Kd.V (Kd.int .i64) 3 w w.heap.size (fun k_ => P1_ k_) (.slice A1 l1.length c1) l1) (h : impl_RunStep.f k a0 l1 a2_0 a2_1 a2_2 = some (r1, r2)) :
 Calls Try.prog 15 #[.int .i64 a0, .slice A1 l1.length c1, .agg #[.int .i64 a2_0, .int .i64 a2_1, .int .i64 a2_2]] w fun e w' => ∃ v0_ : Value, e = .returned (.tuple #[v0_, .bool r2]) ∧ Kd.R (Kd.int .i64) 3 w' w.heap.size (fun k_ => (w.heap.size ≤ k_)) v0_ r1 ∧ Below w.heap.size w w' := by
 have hu36 := Try.underlying36; have hu95 := Try.underlying95; have HO1 := Aside0.mk (show Kd.V (Kd.int .i64) 3 w w.heap.size (fun k_ => (P1_ k_ ∨ w.heap.size ≤ k_)) (.slice A1 l1.length c1) l1 from Kd.V_mono hs1 (fun k_ hk => .inl hk)); have HB := Aside0.mk (Below.refl w.heap.size w); have H : ((impl_vectorField.f k a0 (([l1] : List (List Int)))).bind fun bt386 => (if bt386.2.2.2 = true then ((impl_logOf.f k (l1.length : Int)).bind fun t391 => ((impl_isStep.f a2_0 a2_1 a2_2 t391).bind fun t392 => (if t392 = true then ((impl_field_runStep.f k bt386.1 bt386.2.1 bt386.2.2.1 l1 a2_0 a2_1 a2_2).bind fun t393 => (some (t393, true))) else (some (([] : List Int), false))))) else (some (([] : List Int), false)))) = some (r1, r2) := h; clear h; obtain ⟨y383, hy383⟩ : ∃ y_ : List (List Int), y_ = (([l1] : List (List Int))) := ⟨_, rfl⟩; replace H : ((impl_vectorField.f k a0 y383).bind fun bt386 => (if bt386.2.2.2 = true then ((impl_logOf.f k (l1.length : Int)).bind fun t391 => ((impl_isStep.f a2_0 a2_1 a2_2 t391).bind fun t392 => (if t392 = true then ((impl_field_runStep.f k bt386.1 bt386.2.1 bt386.2.2.1 l1 a2_0 a2_1 a2_2).bind fun t393 => (some (t393, true))) else (some (([] : List Int), false))))) else (some (([] : List Int), false)))) = some (r1, r2) := by first | (rw [hy383]; with_reducible exact H) | (have H2_ := (Option.bind_some _ _).symm.trans H; rw [hy383]; with_reducible exact H2_) | (have H2_ := (Option.bind_some _ _).symm.trans H; with_reducible exact H2_) | with_reducible exact H | (rw [hy383]; exact H) | exact H
 have Ny383 := Aside0.mk hy383; clear hy383; replace H := Option.bind_eq_some_iff.mp H; obtain ⟨⟨t386, t387, t388, t389⟩, A40, H⟩ := H; replace H : (if t389 = true then ((impl_logOf.f k (l1.length : Int)).bind fun t391 => ((impl_isStep.f a2_0 a2_1 a2_2 t391).bind fun t392 => (if t392 = true then ((impl_field_runStep.f k t386 t387 t388 l1 a2_0 a2_1 a2_2).bind fun t393 => (some (t393, true))) else (some (([] : List Int), false))))) else (some (([] : List Int), false))) = some (r1, r2) := H
 have A4 := Aside0.mk A40; clear A40
 by_cases c5 : t389 = true
 · subst c5; have H1 : ((impl_logOf.f k (l1.length : Int)).bind fun t391 => ((impl_isStep.f a2_0 a2_1 a2_2 t391).bind fun t392 => (if t392 = true then ((impl_field_runStep.f k t386 t387 t388 l1 a2_0 a2_1 a2_2).bind fun t393 => (some (t393, true))) else (some (([] : List Int), false))))) = some (r1, r2) := by rw [if_pos rfl] at H; exact H
   clear H; have H := H1; clear H1; replace H := Option.bind_eq_some_iff.mp H; obtain ⟨t391, A60, H⟩ := H; replace H : ((impl_isStep.f a2_0 a2_1 a2_2 t391).bind fun t392 => (if t392 = true then ((impl_field_runStep.f k t386 t387 t388 l1 a2_0 a2_1 a2_2).bind fun t393 => (some (t393, true))) else (some (([] : List Int), false)))) = some (r1, r2) := H
   have A6 := Aside0.mk A60; clear A60; replace H := Option.bind_eq_some_iff.mp H; obtain ⟨t392, A70, H⟩ := H; replace H : (if t392 = true then ((impl_field_runStep.f k t386 t387 t388 l1 a2_0 a2_1 a2_2).bind fun t393 => (some (t393, true))) else (some (([] : List Int), false))) = some (r1, r2) := H
   have A7 := Aside0.mk A70; clear A70
   by_cases c8 : t392 = true
   · subst c8; have H1 : ((impl_field_runStep.f k t386 t387 t388 l1 a2_0 a2_1 a2_2).bind fun t393 => (some (t393, true))) = some (r1, r2) := by rw [if_pos rfl] at H; exact H
     clear H; have H := H1; clear H1; replace H := Option.bind_eq_some_iff.mp H; obtain ⟨t393, A90, H⟩ := H; replace H : (some (t393, true)) = some (r1, r2) := H
     have A9 := Aside0.mk A90; clear A90; simp only [Option.some.injEq, Prod.mk.injEq] at H; obtain ⟨rfl, rfl⟩ := H; go_enter Try.func15, Try.ntmps15
     try go_wp2_with (first | ((with_reducible refine gate_dst (N := 5) rfl ?_); (try (refine gate_guard (by rfl) ?_; dsimp only)); refine boxA 5 #[.int .i64 a2_0, .int .i64 a2_1, .int .i64 a2_2] 36 ?_; intro gb382 hg w10 hbox hb; have BK382 := Aside0.mk hbox; have GW382 := leA (w := w) hg; have GE382 := leA (w := w) hg; replace HO1 := vC HO1 hg hb; replace HB := bS hb; clear hb hbox hg) | ((with_reducible refine gate_dst (N := 13) rfl ?_); (try (refine gate_guard (by rfl) ?_; dsimp only)); refine Kd.N_lit (Kd.slice 3 (Kd.int .i64)) _ 27 ?hg (N' := 13) ?hd (xs := ([l1] : List (List Int))) (inner := [.slice A1 l1.length c1]) (ok := (fun k_ => (P1_ k_ ∨ w.heap.size ≤ k_) ∧ k_ ≠ gb382)) (okp := (fun k_ => (P1_ k_ ∨ w.heap.size ≤ k_) ∧ k_ ≠ gb382)) ?hr ?hp (fun _ hk => hk) ((show ∀ k_, w10.heap.size ≤ k_ → (fun k_ => (P1_ k_ ∨ w.heap.size ≤ k_) ∧ k_ ≠ gb382) k_ from fun k_ hk => ⟨(.inr (Nat.le_trans (below_size belA) hk)), Kd.freshB (g := gb382) (o := .cells #[.int .i64 a2_0, .int .i64 a2_1, .int .i64 a2_2] 36 (0, 0)) blkA k_ hk⟩) _ (Nat.le_refl _)) (Below.refl _ _) (Nat.le_refl _) (by simp) ?_; (case hd => rfl); (case hg => rfl); (case hr => exact xq10); (case hp => exact xq41); intro v384 w11 ho12 hb hg_ hnew_; clear hg_ hnew_; (first | rw [← Ny383.out] at ho12 | (simp only [Int.reduceToNat] at ho12; rw [← Ny383.out] at ho12)); have HO385 := nL ho12; replace HO1 := vD HO1 (Kd.N_base ho12) hb; replace BK382 := bB BK382 hb; replace HB := bS hb; clear hb ho12; obtain ⟨Ao13, co13, eo13⟩ := Kd.N_slice HO385.out; subst eo13) | ((with_reducible refine gate_callee (f := 69) rfl ?_); refine goesL_ (some 14) rfl rfl Try.func69 (by kernel_rfl) rfl #[.int .i64 a0, .slice Ao13 y383.length co13] rfl xq1 ?_; (with_reducible refine (impl_vectorField.calls k a0 _ _ y383 t386 t387 t388 true _ ?side1 ?side2 A4.out).mono ?_); (case side1 => exact cA ((Kd.N_reads' HO385.out).2.2)); (case side2 => exact (Kd.N_reads' HO385.out).2.1); rintro e w14 ⟨rfl, hb⟩; refine ⟨_, rfl, ?_⟩; replace HO1 := vB HO1 hb; replace HO385 := nB HO385 hb; replace BK382 := bB BK382 hb; replace HB := bS hb; (try clear hb); (try clear hb2); (try clear hk); (try clear hi)) | ((with_reducible refine gate_dst (N := 8) rfl ?_); (try (refine gate_guard (by rfl) ?_; dsimp only)); refine boxA 8 #[.int .i64 0, .int .i64 0, .int .i64 0] 95 ?_; intro gb390 hg w15 hbox hb; have BK390 := Aside0.mk hbox; have GW390 := leA (w := w) hg; have GE390 := leA (w := w) hg; have NB382_390 := neL hg BK382; have NB390_382 := neG hg BK382; replace HO1 := vC HO1 hg hb; replace HO385 := nC HO385 hg hb; replace BK382 := bB BK382 hb; replace HB := bS hb; clear hb hbox hg; have hnb16 := NB390_382.out; have hnc16 := NB382_390.out; obtain ⟨hcz17_0, hcz17_1, hcz17_2, hfz17_0, hfz17_1, hfz17_2⟩ := cel3 BK390))
     generalize hw_ : (((w15.setCell ⟨gb390, 0, none⟩ (.int .i64 t386)).setCell ⟨gb390, 1, none⟩ (.int .i64 t387)).setCell ⟨gb390, 2, none⟩ (.int .i64 t388)) = w18; have n0_ : Aside0 (Kd.V (Kd.int .i64) 3 w18 w.heap.size (fun k_ => (P1_ k_ ∨ w.heap.size ≤ k_) ∧ some k_ ≠ (.slice Ao13 y383.length co13 : Value).ownBlock ∧ k_ ≠ gb382 ∧ k_ ≠ gb390) (.slice A1 l1.length c1) l1) := ⟨xq37⟩; have n1_ : Aside0 (Kd.N (Kd.slice 3 (Kd.int .i64)) 27 w18 w.heap.size (fun k_ => (P1_ k_ ∨ w.heap.size ≤ k_) ∧ k_ ≠ gb382 ∧ k_ ≠ gb390) (.slice Ao13 y383.length co13) y383) := ⟨xq38⟩; have n2_ : Aside0 (w18.heap[gb382]? = some (.cells #[.int .i64 a2_0, .int .i64 a2_1, .int .i64 a2_2] 36 (0, 0))) := ⟨xq39⟩; have n3_ : Aside0 (w18.heap[gb390]? = some (.cells #[.int .i64 t386, .int .i64 t387, .int .i64 t388] 95 (0, 0))) := ⟨xq40⟩; have n4_ : Aside0 (Below w.heap.size w w18) := ⟨xq21⟩; (try clear HO1); (try clear HO385); (try clear BK382); (try clear BK390); (try clear HB); clear hw_; have HO1 := n0_; have HO385 := n1_; have BK382 := n2_; have BK390 := n3_; have HB := n4_; clear n0_ n1_ n2_ n3_ n4_; replace HO1 := Aside0.mk (Kd.V_drew HO1.out); replace HO385 := Aside0.mk (Kd.N_drew HO385.out); replace BK382 := Aside0.mk (blk_drew BK382.out); replace BK390 := Aside0.mk (blk_drew BK390.out); replace HB := Aside0.mk (below_drew1 HB.out); refine start_ (n := 10) (S := fun w' => w'.cell? ⟨gb382, 0, none⟩ = some (.int .i64 a2_0) ∧ w'.cell? ⟨gb382, 1, none⟩ = some (.int .i64 a2_1) ∧ w'.cell? ⟨gb382, 2, none⟩ = some (.int .i64 a2_2)) (ds := []) #[false, false, false, false, false, false, false, false, false, false] (by kernel_rfl) rfl rfl ⟨(blk_cell BK382.out 0).trans rfl, (blk_cell BK382.out 1).trans rfl, (blk_cell BK382.out 2).trans rfl⟩ (fun hHeld => ?_); refine with_tabW impl_RunStep.tab2 impl_RunStep.bits2 (fun HT_ HW_ => ?_)
     generalize w18.drew = w19 at HO1 HO385 BK382 BK390 HB hHeld ⊢
     refine pure_ (i := 0) (N := some 17) (v := ?_) (a' := ?_) #[true, false, false, false, false, false, false, false, false, false] rfl rfl (any_of HT_.out (by kernel_rfl)) (fun _ _ _ h => h) (Or.inl ⟨by rfl, ?_⟩) ?_ ?_
     rotate_left
     · intro w'; go_simp
       with_reducible rfl
     rotate_left
     · simp only [Act.put, sa, sb, sc, i64_w, i32_w]
       rfl
     refine pure_ (i := 1) (N := some 18) (v := ?_) (a' := ?_) #[true, true, false, false, false, false, false, false, false, false] rfl rfl (any_of HT_.out (by kernel_rfl)) (fun _ _ _ h => h) (Or.inl ⟨by rfl, ?_⟩) ?_ ?_
     rotate_left
     · intro w'; go_simp
       with_reducible rfl
     rotate_left
     · simp only [Act.put, sa, sb, sc, i64_w, i32_w]
       rfl
     refine pure_ (i := 2) (N := some 19) (v := ?_) (a' := ?_) #[true, true, true, false, false, false, false, false, false, false] rfl rfl (any_of HT_.out (by kernel_rfl)) (fun _ _ _ h => h) (Or.inl ⟨by rfl, ?_⟩) ?_ ?_
     rotate_left
     · intro w'; go_simp
       with_reducible rfl
     rotate_left
     · simp only [Act.put, sa, sb, sc, i64_w, i32_w]
       rfl
     refine pure_ (i := 4) (N := some 21) (v := ?_) (a' := ?_) #[true, true, true, false, true, false, false, false, false, false] rfl rfl (any_of HT_.out (by kernel_rfl)) (fun _ _ _ h => h) (Or.inl ⟨by rfl, ?_⟩) ?_ ?_
     rotate_left
     · intro w'; go_simp
       with_reducible rfl
     rotate_left
     · simp only [Act.put, sa, sb, sc, i64_w, i32_w]
       rfl
     refine pure_ (i := 5) (N := some 22) (v := ?_) (a' := ?_) #[true, true, true, false, true, true, false, false, false, false] rfl rfl (any_of HT_.out (by kernel_rfl)) (fun _ _ _ h => h) (Or.inl ⟨by rfl, ?_⟩) ?_ ?_
     rotate_left
     · intro w'; go_simp
       with_reducible rfl
     rotate_left
     · simp only [Act.put, sa, sb, sc, i64_w, i32_w]
       rfl
     refine take_ (i := 3) (N := some 20) (v := ?_) (a' := ?_) #[true, true, true, true, true, true, false, false, false, false] rfl rfl (take_ofW HT_.out HW_.out (by kernel_rfl)) (fun _ _ _ h => h) (Or.inl ⟨by rfl, ?_⟩) hHeld ?_ ?_
     rotate_left
     · rintro w' ⟨s0, s1, s2⟩
       go_simp
       with_reducible rfl
     rotate_left
     · simp only [Act.put, sa, sb, sc, i64_w, i32_w]
       rfl
     refine one_ (i := 6) (N := some 23) #[true, true, true, true, true, true, true, false, false, false] rfl rfl (one_of HT_.out (by kernel_rfl)) (by decide) (fun K hK => ?_)
     refine goes_ Try.func67 (by kernel_rfl) rfl #[.int .i64 (l1.length : Int)] (by rfl) rfl rfl xq1 ?_
     with_reducible refine (impl_logOf.calls k (l1.length : Int) t391 _ A6.out).mono ?_
     rintro e w' ⟨rfl, ⟨nd, rfl⟩⟩
     refine ⟨_, rfl, ?_⟩
     refine hK.out _ _ ⟨(blk_cell BK382.out 0).trans rfl, (blk_cell BK382.out 1).trans rfl, (blk_cell BK382.out 2).trans rfl⟩ (fun hHeld => ?_)
     clear hK K; refine norm_ (a' := ?_) ?_ ?_
     rotate_left
     · show Act.put _ (some 23) _ = _
       simp only [Act.put, sa, sb, sc, i64_w, i32_w]
       rfl
     refine one_ (i := 7) (N := some 24) #[true, true, true, true, true, true, true, true, false, false] rfl rfl (one_of HT_.out (by kernel_rfl)) (by decide) (fun K hK => ?_)
     refine goes_ Try.func70 (by kernel_rfl) rfl #[.agg #[.int .i64 a2_0, .int .i64 a2_1, .int .i64 a2_2], .int .i64 t391] (by rfl) rfl rfl xq1 ?_
     with_reducible refine (impl_isStep.calls a2_0 a2_1 a2_2 t391 true _ A7.out).mono ?_
     rintro e w20 ⟨rfl, hb⟩
     refine ⟨_, rfl, ?_⟩
     replace HO1 := vB HO1 hb; replace HO385 := nB HO385 hb; replace BK382 := bB BK382 hb; replace BK390 := bB BK390 hb; replace HB := bS hb; (try clear hb); (try clear hb2); (try clear hk); (try clear hi); refine hK.out _ _ ⟨(blk_cell BK382.out 0).trans rfl, (blk_cell BK382.out 1).trans rfl, (blk_cell BK382.out 2).trans rfl⟩ (fun hHeld => ?_)
     clear hK K; refine norm_ (a' := ?_) ?_ ?_
     rotate_left
     · show Act.put _ (some 24) _ = _
       simp only [Act.put, sa, sb, sc, i64_w, i32_w]
       rfl
     refine pure_ (i := 8) (N := some 25) (v := ?_) (a' := ?_) #[true, true, true, true, true, true, true, true, true, false] rfl rfl (any_of HT_.out (by kernel_rfl)) (fun _ _ _ h => h) (Or.inl ⟨by rfl, ?_⟩) ?_ ?_
     rotate_left
     · intro w'; go_simp
       with_reducible rfl
     rotate_left
     · simp only [Act.put, sa, sb, sc, i64_w, i32_w]
       rfl
     refine pure_ (i := 9) (N := some 26) (v := ?_) (a' := ?_) #[true, true, true, true, true, true, true, true, true, true] rfl rfl (any_of HT_.out (by kernel_rfl)) (fun _ _ _ h => h) (Or.inl ⟨by rfl, ?_⟩) ?_ ?_
     rotate_left
     · intro w'; go_simp
       with_reducible rfl
     rotate_left
     · simp only [Act.put, sa, sb, sc, i64_w, i32_w]
       rfl
     refine done_ (done_of HT_.out (by kernel_rfl)) ?_
     obtain ⟨hcz21_0, hcz21_1, hcz21_2, hfz21_0, hfz21_1, hfz21_2⟩ := cel3 BK390; obtain ⟨hcz22_0, hcz22_1, hcz22_2, hfz22_0, hfz22_1, hfz22_2⟩ := cel3 BK382; try go_wp2_with (first | ((with_reducible refine gate_callee (f := 71) rfl ?_); refine goesL_ (some 30) rfl rfl Try.func71 (by kernel_rfl) rfl #[.agg #[.int .i64 t386, .int .i64 t387, .int .i64 t388], .slice A1 l1.length c1, .agg #[.int .i64 a2_0, .int .i64 a2_1, .int .i64 a2_2]] rfl xq1 ?_; (with_reducible refine (impl_field_runStep.calls k t386 t387 t388 _ _ l1 a2_0 a2_1 a2_2 t393 _ ?side1 ?side2 A9.out).mono ?_); (case side1 => exact cA ((Kd.V_reads' HO1.out).2.2)); (case side2 => exact (Kd.V_reads' HO1.out).2.1); rintro e w23 ⟨v394, rfl, ho0, hb⟩; refine ⟨_, rfl, ?_⟩; have HO395 := rL (Kd.R_newM (M := fun k_ => (w.heap.size ≤ k_)) ho0 (below_size belA) (fun k_ h_ => h_)); replace HO1 := vD HO1 (Kd.R_base ho0) hb; replace HO385 := nD HO385 (Kd.R_base ho0) hb; replace BK382 := bB BK382 hb; replace BK390 := bB BK390 hb; replace HB := bS hb; (try clear hb); (try clear hb2); (try clear hk); (try clear hi); (try clear ho0)))
     go_ret2
     exact ⟨_, xq2, by (with_reducible repeat (first | apply Kd.R_alloc | apply Kd.R_drewN | apply Kd.R_drew)); exact Kd.R_mono HO395.out (fun _ hk => hk.1), belA⟩
   · replace c8 := Bool.eq_false_iff.mpr c8; subst c8; have H1 : (some (([] : List Int), false)) = some (r1, r2) := by rw [if_neg (show ¬ (false = true) by decide)] at H; exact H
     clear H; have H := H1; clear H1; simp only [Option.some.injEq, Prod.mk.injEq] at H; obtain ⟨rfl, rfl⟩ := H; go_enter Try.func15, Try.ntmps15
     try go_wp2_with (first | ((with_reducible refine gate_dst (N := 5) rfl ?_); (try (refine gate_guard (by rfl) ?_; dsimp only)); refine boxA 5 #[.int .i64 a2_0, .int .i64 a2_1, .int .i64 a2_2] 36 ?_; intro gb382 hg w24 hbox hb; have BK382 := Aside0.mk hbox; have GW382 := leA (w := w) hg; have GE382 := leA (w := w) hg; replace HO1 := vC HO1 hg hb; replace HB := bS hb; clear hb hbox hg) | ((with_reducible refine gate_dst (N := 13) rfl ?_); (try (refine gate_guard (by rfl) ?_; dsimp only)); refine Kd.N_lit (Kd.slice 3 (Kd.int .i64)) _ 27 ?hg (N' := 13) ?hd (xs := ([l1] : List (List Int))) (inner := [.slice A1 l1.length c1]) (ok := (fun k_ => (P1_ k_ ∨ w.heap.size ≤ k_) ∧ k_ ≠ gb382)) (okp := (fun k_ => (P1_ k_ ∨ w.heap.size ≤ k_) ∧ k_ ≠ gb382)) ?hr ?hp (fun _ hk => hk) ((show ∀ k_, w24.heap.size ≤ k_ → (fun k_ => (P1_ k_ ∨ w.heap.size ≤ k_) ∧ k_ ≠ gb382) k_ from fun k_ hk => ⟨(.inr (Nat.le_trans (below_size belA) hk)), Kd.freshB (g := gb382) (o := .cells #[.int .i64 a2_0, .int .i64 a2_1, .int .i64 a2_2] 36 (0, 0)) blkA k_ hk⟩) _ (Nat.le_refl _)) (Below.refl _ _) (Nat.le_refl _) (by simp) ?_; (case hd => rfl); (case hg => rfl); (case hr => exact xq10); (case hp => exact xq41); intro v384 w25 ho26 hb hg_ hnew_; clear hg_ hnew_; (first | rw [← Ny383.out] at ho26 | (simp only [Int.reduceToNat] at ho26; rw [← Ny383.out] at ho26)); have HO385 := nL ho26; replace HO1 := vD HO1 (Kd.N_base ho26) hb; replace BK382 := bB BK382 hb; replace HB := bS hb; clear hb ho26; obtain ⟨Ao27, co27, eo27⟩ := Kd.N_slice HO385.out; subst eo27) | ((with_reducible refine gate_callee (f := 69) rfl ?_); refine goesL_ (some 14) rfl rfl Try.func69 (by kernel_rfl) rfl #[.int .i64 a0, .slice Ao27 y383.length co27] rfl xq1 ?_; (with_reducible refine (impl_vectorField.calls k a0 _ _ y383 t386 t387 t388 true _ ?side1 ?side2 A4.out).mono ?_); (case side1 => exact cA ((Kd.N_reads' HO385.out).2.2)); (case side2 => exact (Kd.N_reads' HO385.out).2.1); rintro e w28 ⟨rfl, hb⟩; refine ⟨_, rfl, ?_⟩; replace HO1 := vB HO1 hb; replace HO385 := nB HO385 hb; replace BK382 := bB BK382 hb; replace HB := bS hb; (try clear hb); (try clear hb2); (try clear hk); (try clear hi)) | ((with_reducible refine gate_dst (N := 8) rfl ?_); (try (refine gate_guard (by rfl) ?_; dsimp only)); refine boxA 8 #[.int .i64 0, .int .i64 0, .int .i64 0] 95 ?_; intro gb390 hg w29 hbox hb; have BK390 := Aside0.mk hbox; have GW390 := leA (w := w) hg; have GE390 := leA (w := w) hg; have NB382_390 := neL hg BK382; have NB390_382 := neG hg BK382; replace HO1 := vC HO1 hg hb; replace HO385 := nC HO385 hg hb; replace BK382 := bB BK382 hb; replace HB := bS hb; clear hb hbox hg; have hnb30 := NB390_382.out; have hnc30 := NB382_390.out; obtain ⟨hcz31_0, hcz31_1, hcz31_2, hfz31_0, hfz31_1, hfz31_2⟩ := cel3 BK390))
     generalize hw_ : (((w29.setCell ⟨gb390, 0, none⟩ (.int .i64 t386)).setCell ⟨gb390, 1, none⟩ (.int .i64 t387)).setCell ⟨gb390, 2, none⟩ (.int .i64 t388)) = w32; have n0_ : Aside0 (Kd.V (Kd.int .i64) 3 w32 w.heap.size (fun k_ => (P1_ k_ ∨ w.heap.size ≤ k_) ∧ some k_ ≠ (.slice Ao27 y383.length co27 : Value).ownBlock ∧ k_ ≠ gb382 ∧ k_ ≠ gb390) (.slice A1 l1.length c1) l1) := ⟨xq37⟩; have n1_ : Aside0 (Kd.N (Kd.slice 3 (Kd.int .i64)) 27 w32 w.heap.size (fun k_ => (P1_ k_ ∨ w.heap.size ≤ k_) ∧ k_ ≠ gb382 ∧ k_ ≠ gb390) (.slice Ao27 y383.length co27) y383) := ⟨xq38⟩; have n2_ : Aside0 (w32.heap[gb382]? = some (.cells #[.int .i64 a2_0, .int .i64 a2_1, .int .i64 a2_2] 36 (0, 0))) := ⟨xq39⟩; have n3_ : Aside0 (w32.heap[gb390]? = some (.cells #[.int .i64 t386, .int .i64 t387, .int .i64 t388] 95 (0, 0))) := ⟨xq40⟩; have n4_ : Aside0 (Below w.heap.size w w32) := ⟨xq21⟩; (try clear HO1); (try clear HO385); (try clear BK382); (try clear BK390); (try clear HB); clear hw_; have HO1 := n0_; have HO385 := n1_; have BK382 := n2_; have BK390 := n3_; have HB := n4_; clear n0_ n1_ n2_ n3_ n4_; replace HO1 := Aside0.mk (Kd.V_drew HO1.out); replace HO385 := Aside0.mk (Kd.N_drew HO385.out); replace BK382 := Aside0.mk (blk_drew BK382.out); replace BK390 := Aside0.mk (blk_drew BK390.out); replace HB := Aside0.mk (below_drew1 HB.out); refine start_ (n := 10) (S := fun w' => w'.cell? ⟨gb382, 0, none⟩ = some (.int .i64 a2_0) ∧ w'.cell? ⟨gb382, 1, none⟩ = some (.int .i64 a2_1) ∧ w'.cell? ⟨gb382, 2, none⟩ = some (.int .i64 a2_2)) (ds := []) #[false, false, false, false, false, false, false, false, false, false] (by kernel_rfl) rfl rfl ⟨(blk_cell BK382.out 0).trans rfl, (blk_cell BK382.out 1).trans rfl, (blk_cell BK382.out 2).trans rfl⟩ (fun hHeld => ?_); refine with_tabW impl_RunStep.tab2 impl_RunStep.bits2 (fun HT_ HW_ => ?_)
     generalize w32.drew = w33 at HO1 HO385 BK382 BK390 HB hHeld ⊢
     refine pure_ (i := 0) (N := some 17) (v := ?_) (a' := ?_) #[true, false, false, false, false, false, false, false, false, false] rfl rfl (any_of HT_.out (by kernel_rfl)) (fun _ _ _ h => h) (Or.inl ⟨by rfl, ?_⟩) ?_ ?_
     rotate_left
     · intro w'; go_simp
       with_reducible rfl
     rotate_left
     · simp only [Act.put, sa, sb, sc, i64_w, i32_w]
       rfl
     refine pure_ (i := 1) (N := some 18) (v := ?_) (a' := ?_) #[true, true, false, false, false, false, false, false, false, false] rfl rfl (any_of HT_.out (by kernel_rfl)) (fun _ _ _ h => h) (Or.inl ⟨by rfl, ?_⟩) ?_ ?_
     rotate_left
     · intro w'; go_simp
       with_reducible rfl
     rotate_left
     · simp only [Act.put, sa, sb, sc, i64_w, i32_w]
       rfl
     refine pure_ (i := 2) (N := some 19) (v := ?_) (a' := ?_) #[true, true, true, false, false, false, false, false, false, false] rfl rfl (any_of HT_.out (by kernel_rfl)) (fun _ _ _ h => h) (Or.inl ⟨by rfl, ?_⟩) ?_ ?_
     rotate_left
     · intro w'; go_simp
       with_reducible rfl
     rotate_left
     · simp only [Act.put, sa, sb, sc, i64_w, i32_w]
       rfl
     refine pure_ (i := 4) (N := some 21) (v := ?_) (a' := ?_) #[true, true, true, false, true, false, false, false, false, false] rfl rfl (any_of HT_.out (by kernel_rfl)) (fun _ _ _ h => h) (Or.inl ⟨by rfl, ?_⟩) ?_ ?_
     rotate_left
     · intro w'; go_simp
       with_reducible rfl
     rotate_left
     · simp only [Act.put, sa, sb, sc, i64_w, i32_w]
       rfl
     refine pure_ (i := 5) (N := some 22) (v := ?_) (a' := ?_) #[true, true, true, false, true, true, false, false, false, false] rfl rfl (any_of HT_.out (by kernel_rfl)) (fun _ _ _ h => h) (Or.inl ⟨by rfl, ?_⟩) ?_ ?_
     rotate_left
     · intro w'; go_simp
       with_reducible rfl
     rotate_left
     · simp only [Act.put, sa, sb, sc, i64_w, i32_w]
       rfl
     refine take_ (i := 3) (N := some 20) (v := ?_) (a' := ?_) #[true, true, true, true, true, true, false, false, false, false] rfl rfl (take_ofW HT_.out HW_.out (by kernel_rfl)) (fun _ _ _ h => h) (Or.inl ⟨by rfl, ?_⟩) hHeld ?_ ?_
     rotate_left
     · rintro w' ⟨s0, s1, s2⟩
       go_simp
       with_reducible rfl
     rotate_left
     · simp only [Act.put, sa, sb, sc, i64_w, i32_w]
       rfl
     refine one_ (i := 6) (N := some 23) #[true, true, true, true, true, true, true, false, false, false] rfl rfl (one_of HT_.out (by kernel_rfl)) (by decide) (fun K hK => ?_)
     refine goes_ Try.func67 (by kernel_rfl) rfl #[.int .i64 (l1.length : Int)] (by rfl) rfl rfl xq1 ?_
     with_reducible refine (impl_logOf.calls k (l1.length : Int) t391 _ A6.out).mono ?_
     rintro e w' ⟨rfl, ⟨nd, rfl⟩⟩
     refine ⟨_, rfl, ?_⟩
     refine hK.out _ _ ⟨(blk_cell BK382.out 0).trans rfl, (blk_cell BK382.out 1).trans rfl, (blk_cell BK382.out 2).trans rfl⟩ (fun hHeld => ?_)
     clear hK K; refine norm_ (a' := ?_) ?_ ?_
     rotate_left
     · show Act.put _ (some 23) _ = _
       simp only [Act.put, sa, sb, sc, i64_w, i32_w]
       rfl
     refine one_ (i := 7) (N := some 24) #[true, true, true, true, true, true, true, true, false, false] rfl rfl (one_of HT_.out (by kernel_rfl)) (by decide) (fun K hK => ?_)
     refine goes_ Try.func70 (by kernel_rfl) rfl #[.agg #[.int .i64 a2_0, .int .i64 a2_1, .int .i64 a2_2], .int .i64 t391] (by rfl) rfl rfl xq1 ?_
     with_reducible refine (impl_isStep.calls a2_0 a2_1 a2_2 t391 false _ A7.out).mono ?_
     rintro e w34 ⟨rfl, hb⟩
     refine ⟨_, rfl, ?_⟩
     replace HO1 := vB HO1 hb; replace HO385 := nB HO385 hb; replace BK382 := bB BK382 hb; replace BK390 := bB BK390 hb; replace HB := bS hb; (try clear hb); (try clear hb2); (try clear hk); (try clear hi); refine hK.out _ _ ⟨(blk_cell BK382.out 0).trans rfl, (blk_cell BK382.out 1).trans rfl, (blk_cell BK382.out 2).trans rfl⟩ (fun hHeld => ?_)
     clear hK K; refine norm_ (a' := ?_) ?_ ?_
     rotate_left
     · show Act.put _ (some 24) _ = _
       simp only [Act.put, sa, sb, sc, i64_w, i32_w]
       rfl
     refine pure_ (i := 8) (N := some 25) (v := ?_) (a' := ?_) #[true, true, true, true, true, true, true, true, true, false] rfl rfl (any_of HT_.out (by kernel_rfl)) (fun _ _ _ h => h) (Or.inl ⟨by rfl, ?_⟩) ?_ ?_
     rotate_left
     · intro w'; go_simp
       with_reducible rfl
     rotate_left
     · simp only [Act.put, sa, sb, sc, i64_w, i32_w]
       rfl
     refine pure_ (i := 9) (N := some 26) (v := ?_) (a' := ?_) #[true, true, true, true, true, true, true, true, true, true] rfl rfl (any_of HT_.out (by kernel_rfl)) (fun _ _ _ h => h) (Or.inl ⟨by rfl, ?_⟩) ?_ ?_
     rotate_left
     · intro w'; go_simp
       with_reducible rfl
     rotate_left
     · simp only [Act.put, sa, sb, sc, i64_w, i32_w]
       rfl
     refine done_ (done_of HT_.out (by kernel_rfl)) ?_
     try go_wp2
     go_ret2
     exact ⟨_, xq2, xq14, belA⟩
 · replace c5 := Bool.eq_false_iff.mpr c5; subst c5; have H1 : (some (([] : List Int), false)) = some (r1, r2) := by rw [if_neg (show ¬ (false = true) by decide)] at H; exact H
   clear H; have H := H1; clear H1; simp only [Option.some.injEq, Prod.mk.injEq] at H; obtain ⟨rfl, rfl⟩ := H; go_enter Try.func15, Try.ntmps15
   try go_wp2_with (first | ((with_reducible refine gate_dst (N := 5) rfl ?_); (try (refine gate_guard (by rfl) ?_; dsimp only)); refine boxA 5 #[.int .i64 a2_0, .int .i64 a2_1, .int .i64 a2_2] 36 ?_; intro gb382 hg w35 hbox hb; have BK382 := Aside0.mk hbox; have GW382 := leA (w := w) hg; have GE382 := leA (w := w) hg; replace HO1 := vC HO1 hg hb; replace HB := bS hb; clear hb hbox hg) | ((with_reducible refine gate_dst (N := 13) rfl ?_); (try (refine gate_guard (by rfl) ?_; dsimp only)); refine Kd.N_lit (Kd.slice 3 (Kd.int .i64)) _ 27 ?hg (N' := 13) ?hd (xs := ([l1] : List (List Int))) (inner := [.slice A1 l1.length c1]) (ok := (fun k_ => (P1_ k_ ∨ w.heap.size ≤ k_) ∧ k_ ≠ gb382)) (okp := (fun k_ => (P1_ k_ ∨ w.heap.size ≤ k_) ∧ k_ ≠ gb382)) ?hr ?hp (fun _ hk => hk) ((show ∀ k_, w35.heap.size ≤ k_ → (fun k_ => (P1_ k_ ∨ w.heap.size ≤ k_) ∧ k_ ≠ gb382) k_ from fun k_ hk => ⟨(.inr (Nat.le_trans (below_size belA) hk)), Kd.freshB (g := gb382) (o := .cells #[.int .i64 a2_0, .int .i64 a2_1, .int .i64 a2_2] 36 (0, 0)) blkA k_ hk⟩) _ (Nat.le_refl _)) (Below.refl _ _) (Nat.le_refl _) (by simp) ?_; (case hd => rfl); (case hg => rfl); (case hr => exact xq10); (case hp => exact xq41); intro v384 w36 ho37 hb hg_ hnew_; clear hg_ hnew_; (first | rw [← Ny383.out] at ho37 | (simp only [Int.reduceToNat] at ho37; rw [← Ny383.out] at ho37)); have HO385 := nL ho37; replace HO1 := vD HO1 (Kd.N_base ho37) hb; replace BK382 := bB BK382 hb; replace HB := bS hb; clear hb ho37; obtain ⟨Ao38, co38, eo38⟩ := Kd.N_slice HO385.out; subst eo38) | ((with_reducible refine gate_callee (f := 69) rfl ?_); refine goesL_ (some 14) rfl rfl Try.func69 (by kernel_rfl) rfl #[.int .i64 a0, .slice Ao38 y383.length co38] rfl xq1 ?_; (with_reducible refine (impl_vectorField.calls k a0 _ _ y383 t386 t387 t388 false _ ?side1 ?side2 A4.out).mono ?_); (case side1 => exact cA ((Kd.N_reads' HO385.out).2.2)); (case side2 => exact (Kd.N_reads' HO385.out).2.1); rintro e w39 ⟨rfl, hb⟩; refine ⟨_, rfl, ?_⟩; replace HO1 := vB HO1 hb; replace HO385 := nB HO385 hb; replace BK382 := bB BK382 hb; replace HB := bS hb; (try clear hb); (try clear hb2); (try clear hk); (try clear hi)) | ((with_reducible refine gate_dst (N := 8) rfl ?_); (try (refine gate_guard (by rfl) ?_; dsimp only)); refine boxA 8 #[.int .i64 0, .int .i64 0, .int .i64 0] 95 ?_; intro gb390 hg w40 hbox hb; have BK390 := Aside0.mk hbox; have GW390 := leA (w := w) hg; have GE390 := leA (w := w) hg; have NB382_390 := neL hg BK382; have NB390_382 := neG hg BK382; replace HO1 := vC HO1 hg hb; replace HO385 := nC HO385 hg hb; replace BK382 := bB BK382 hb; replace HB := bS hb; clear hb hbox hg; have hnb41 := NB390_382.out; have hnc41 := NB382_390.out; obtain ⟨hcz42_0, hcz42_1, hcz42_2, hfz42_0, hfz42_1, hfz42_2⟩ := cel3 BK390))
   generalize hw_ : (((w40.setCell ⟨gb390, 0, none⟩ (.int .i64 t386)).setCell ⟨gb390, 1, none⟩ (.int .i64 t387)).setCell ⟨gb390, 2, none⟩ (.int .i64 t388)) = w43; have n0_ : Aside0 (Kd.V (Kd.int .i64) 3 w43 w.heap.size (fun k_ => (P1_ k_ ∨ w.heap.size ≤ k_) ∧ some k_ ≠ (.slice Ao38 y383.length co38 : Value).ownBlock ∧ k_ ≠ gb382 ∧ k_ ≠ gb390) (.slice A1 l1.length c1) l1) := ⟨xq37⟩; have n1_ : Aside0 (Kd.N (Kd.slice 3 (Kd.int .i64)) 27 w43 w.heap.size (fun k_ => (P1_ k_ ∨ w.heap.size ≤ k_) ∧ k_ ≠ gb382 ∧ k_ ≠ gb390) (.slice Ao38 y383.length co38) y383) := ⟨xq38⟩; have n2_ : Aside0 (w43.heap[gb382]? = some (.cells #[.int .i64 a2_0, .int .i64 a2_1, .int .i64 a2_2] 36 (0, 0))) := ⟨xq39⟩; have n3_ : Aside0 (w43.heap[gb390]? = some (.cells #[.int .i64 t386, .int .i64 t387, .int .i64 t388] 95 (0, 0))) := ⟨xq40⟩; have n4_ : Aside0 (Below w.heap.size w w43) := ⟨xq21⟩; (try clear HO1); (try clear HO385); (try clear BK382); (try clear BK390); (try clear HB); clear hw_; have HO1 := n0_; have HO385 := n1_; have BK382 := n2_; have BK390 := n3_; have HB := n4_; clear n0_ n1_ n2_ n3_ n4_; replace HO1 := Aside0.mk (Kd.V_drew HO1.out); replace HO385 := Aside0.mk (Kd.N_drew HO385.out); replace BK382 := Aside0.mk (blk_drew BK382.out); replace BK390 := Aside0.mk (blk_drew BK390.out); replace HB := Aside0.mk (below_drew1 HB.out); refine start_ (n := 10) (S := fun w' => True) (ds := []) #[false, false, false, false, false, false, false, false, false, false] (by kernel_rfl) rfl rfl trivial (fun hHeld => ?_); refine with_tabW impl_RunStep.tab2 impl_RunStep.bits2 (fun HT_ HW_ => ?_)
   generalize w43.drew = w44 at HO1 HO385 BK382 BK390 HB hHeld ⊢
   refine pure_ (i := 0) (N := some 17) (v := ?_) (a' := ?_) #[true, false, false, false, false, false, false, false, false, false] rfl rfl (any_of HT_.out (by kernel_rfl)) (fun _ _ _ h => h) (Or.inl ⟨by rfl, ?_⟩) ?_ ?_
   rotate_left
   · intro w'; go_simp
     with_reducible rfl
   rotate_left
   · simp only [Act.put, sa, sb, sc, i64_w, i32_w]
     rfl
   refine pure_ (i := 1) (N := some 18) (v := ?_) (a' := ?_) #[true, true, false, false, false, false, false, false, false, false] rfl rfl (any_of HT_.out (by kernel_rfl)) (fun _ _ _ h => h) (Or.inl ⟨by rfl, ?_⟩) ?_ ?_
   rotate_left
   · intro w'; go_simp
     with_reducible rfl
   rotate_left
   · simp only [Act.put, sa, sb, sc, i64_w, i32_w]
     rfl
   refine pure_ (i := 2) (N := some 19) (v := ?_) (a' := ?_) #[true, true, true, false, false, false, false, false, false, false] rfl rfl (any_of HT_.out (by kernel_rfl)) (fun _ _ _ h => h) (Or.inl ⟨by rfl, ?_⟩) ?_ ?_
   rotate_left
   · intro w'; go_simp
     with_reducible rfl
   rotate_left
   · simp only [Act.put, sa, sb, sc, i64_w, i32_w]
     rfl
   refine pure_ (i := 3) (N := some 20) (v := undef) (a' := ?_) #[true, true, true, true, false, false, false, false, false, false] rfl rfl (any_of HT_.out (by kernel_rfl)) (fun _ _ _ h => h) (Or.inr ⟨by rfl, rfl⟩) ?_ ?_
   rotate_left
   · simp only [Act.put, sa, sb, sc, i64_w, i32_w]
     rfl
   refine pure_ (i := 4) (N := some 21) (v := undef) (a' := ?_) #[true, true, true, true, true, false, false, false, false, false] rfl rfl (any_of HT_.out (by kernel_rfl)) (fun _ _ _ h => h) (Or.inr ⟨by rfl, rfl⟩) ?_ ?_
   rotate_left
   · simp only [Act.put, sa, sb, sc, i64_w, i32_w]
     rfl
   refine pure_ (i := 5) (N := some 22) (v := undef) (a' := ?_) #[true, true, true, true, true, true, false, false, false, false] rfl rfl (any_of HT_.out (by kernel_rfl)) (fun _ _ _ h => h) (Or.inr ⟨by rfl, rfl⟩) ?_ ?_
   rotate_left
   · simp only [Act.put, sa, sb, sc, i64_w, i32_w]
     rfl
   refine pure_ (i := 6) (N := some 23) (v := undef) (a' := ?_) #[true, true, true, true, true, true, true, false, false, false] rfl rfl (any_of HT_.out (by kernel_rfl)) (fun _ _ _ h => h) (Or.inr ⟨by rfl, rfl⟩) ?_ ?_
   rotate_left
   · simp only [Act.put, sa, sb, sc, i64_w, i32_w]
     rfl
   refine pure_ (i := 7) (N := some 24) (v := undef) (a' := ?_) #[true, true, true, true, true, true, true, true, false, false] rfl rfl (any_of HT_.out (by kernel_rfl)) (fun _ _ _ h => h) (Or.inr ⟨by rfl, rfl⟩) ?_ ?_
   rotate_left
   · simp only [Act.put, sa, sb, sc, i64_w, i32_w]
     rfl
   refine pure_ (i := 8) (N := some 25) (v := undef) (a' := ?_) #[true, true, true, true, true, true, true, true, true, false] rfl rfl (any_of HT_.out (by kernel_rfl)) (fun _ _ _ h => h) (Or.inr ⟨by rfl, rfl⟩) ?_ ?_
   rotate_left
   · simp only [Act.put, sa, sb, sc, i64_w, i32_w]
     rfl
   refine pure_ (i := 9) (N := some 26) (v := ?_) (a' := ?_) #[true, true, true, true, true, true, true, true, true, true] rfl rfl (any_of HT_.out (by kernel_rfl)) (fun _ _ _ h => h) (Or.inl ⟨by rfl, ?_⟩) ?_ ?_
   rotate_left
   · intro w'; go_simp
     with_reducible rfl
   rotate_left
   · simp only [Act.put, sa, sb, sc, i64_w, i32_w]
     rfl
   refine done_ (done_of HT_.out (by kernel_rfl)) ?_
   try go_wp2
   go_ret2
   exact ⟨_, xq2, xq14, belA⟩

/-! ### impl_StepCost: function 16 -/
def impl_StepCost.f (a0_0 : Int) (a0_1 : Int) (a0_2 : Int) : Option (Int) := if a0_1 < 0 then (some 0) else (if a0_1 ≥ a0_2 then (some 0) else (some (wrap64 (a0_2 - a0_1))))
set_option maxHeartbeats 8000000 in
set_option maxRecDepth 100000 in
theorem impl_StepCost.calls (a0_0 : Int) (a0_1 : Int) (a0_2 : Int) (r : Int) (w : World) (h : impl_StepCost.f a0_0 a0_1 a0_2 = some r) :
 Calls Try.prog 16 #[.agg #[.int .i64 a0_0, .int .i64 a0_1, .int .i64 a0_2]] w fun e w' => e = .returned (.int .i64 r) ∧ Below w.heap.size w w' := by
 have hu36 := Try.underlying36; have HB := Aside0.mk (Below.refl w.heap.size w); have H : (if a0_1 < 0 then (some 0) else (if a0_1 ≥ a0_2 then (some 0) else (some (wrap64 (a0_2 - a0_1))))) = some r := h; clear h
 by_cases c2 : a0_1 < 0
 · rw [if_pos c2] at H; have c2b0 := decide_eq_true c2; clear c2; obtain rfl := Option.some.inj H; go_enter Try.func16, Try.ntmps16
   go_wp2_with (first | ((with_reducible refine gate_dst (N := 1) rfl ?_); refine boxA 1 #[.int .i64 a0_0, .int .i64 a0_1, .int .i64 a0_2] 36 ?_; intro gb396 hg w3 hbox hb; have BK396 := Aside0.mk hbox; have GW396 := leA (w := w) hg; have GE396 := leA (w := w) hg; replace HB := bS hb; clear hb hbox hg; obtain ⟨hcz4_0, hcz4_1, hcz4_2, hfz4_0, hfz4_1, hfz4_2⟩ := cel3 BK396))
   go_ret
   exact ⟨xq2, belA⟩
 · rw [if_neg c2] at H; have c2b0 := decide_eq_false c2; clear c2
   by_cases c5 : a0_1 ≥ a0_2
   · rw [if_pos c5] at H; have c5b0 := decide_eq_true c5; clear c5; obtain rfl := Option.some.inj H; go_enter Try.func16, Try.ntmps16
     go_wp2_with (first | ((with_reducible refine gate_dst (N := 1) rfl ?_); refine boxA 1 #[.int .i64 a0_0, .int .i64 a0_1, .int .i64 a0_2] 36 ?_; intro gb396 hg w6 hbox hb; have BK396 := Aside0.mk hbox; have GW396 := leA (w := w) hg; have GE396 := leA (w := w) hg; replace HB := bS hb; clear hb hbox hg; obtain ⟨hcz7_0, hcz7_1, hcz7_2, hfz7_0, hfz7_1, hfz7_2⟩ := cel3 BK396))
     go_ret
     exact ⟨xq2, belA⟩
   · rw [if_neg c5] at H; have c5b0 := decide_eq_false c5; clear c5; obtain rfl := Option.some.inj H; go_enter Try.func16, Try.ntmps16
     go_wp2_with (first | ((with_reducible refine gate_dst (N := 1) rfl ?_); refine boxA 1 #[.int .i64 a0_0, .int .i64 a0_1, .int .i64 a0_2] 36 ?_; intro gb396 hg w8 hbox hb; have BK396 := Aside0.mk hbox; have GW396 := leA (w := w) hg; have GE396 := leA (w := w) hg; replace HB := bS hb; clear hb hbox hg; obtain ⟨hcz9_0, hcz9_1, hcz9_2, hfz9_0, hfz9_1, hfz9_2⟩ := cel3 BK396))
     go_ret
     exact ⟨xq2, belA⟩

end Go.Proofs.Ytbojabmpcfclhaa.PFnPlanAny

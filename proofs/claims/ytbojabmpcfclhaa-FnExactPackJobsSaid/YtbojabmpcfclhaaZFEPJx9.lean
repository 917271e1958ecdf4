-- Written by a program of this session (the print of the kit with contracts of this session's own added)
import Derived.Test.YtbojabmpcfclhaaZFEPJx8
set_option maxHeartbeats 8000000
set_option maxRecDepth 100000
namespace Go.Proofs.Ytbojabmpcfclhaa.PFnExactPackJobs
open Go.RowKit Go.Proofs.YtbojabmpcfclhaaW.PrintWords Go.Proofs.YtbojabmpcfclhaaW.PrintLast Go.Proofs.YtbojabmpcfclhaaW.PrintMore Go.Proofs.YtbojabmpcfclhaaW.PrintPack Go.Proofs.YtbojabmpcfclhaaW.PrintPack
set_option linter.unusedVariables false
set_option linter.unusedSimpArgs false

mutual
def impl_encodeJob.l0 : Nat → List Int → List (List Int) → Int → Int → Option (List Int)
 | 0, _, _, _, _ => none
 | k + 1, x3, x23, x24, x25 => if x25 < x24 then (if 0 ≤ x25 then (if x25 < (x23.length : Int) then ((impl_putNumber.f k ((rd_L1 x23 x25).length : Int)).bind fun t296 => (if x3.length + t296.length < 140737488355328 then (impl_encodeJob.l1 k (x3 ++ t296) x23 x24 x25 (rd_L1 x23 x25) ((rd_L1 x23 x25).length : Int) 0) else (none))) else (none)) else (none)) else (some x3)
def impl_encodeJob.l1 : Nat → List Int → List (List Int) → Int → Int → List Int → Int → Int → Option (List Int)
 | 0, _, _, _, _, _, _, _ => none
 | k + 1, x3, x23, x24, x25, x34, x35, x36 => if x36 < x35 then (if 0 ≤ x36 then (if x36 < (x34.length : Int) then ((impl_putNumber.f k (rd x34 x36)).bind fun t303 => (if x3.length + t303.length < 140737488355328 then (impl_encodeJob.l1 k (x3 ++ t303) x23 x24 x25 x34 x35 (wrap64 (x36 + 1))) else (none))) else (none)) else (none)) else (impl_encodeJob.l0 k x3 x23 x24 (wrap64 (x25 + 1)))
end
def impl_encodeJob.f (k : Nat) (a0_0 : Int) (a0_1 : Int) (l0_2 : List Int) (l0_3 : List Int) (a0_4 : Int) : Option (List Int) := (some (([(a0_0) % 256, (a0_1) % 256] : List Int) : List Int)).bind fun y283 => ((impl_putNumber.f k a0_4).bind fun t286 => (if y283.length + t286.length < 140737488355328 then ((some (([l0_2, l0_3] : List (List Int)) : List (List Int))).bind fun y292 => (impl_encodeJob.l0 k (y283 ++ t286) y292 (y292.length : Int) 0)) else (none)))
theorem impl_encodeJob.mono_l : ∀ k, (∀ y0 y1 y2 y3, LeO (impl_encodeJob.l0 k y0 y1 y2 y3) (impl_encodeJob.l0 (k + 1) y0 y1 y2 y3)) ∧ (∀ y0 y1 y2 y3 y4 y5 y6, LeO (impl_encodeJob.l1 k y0 y1 y2 y3 y4 y5 y6) (impl_encodeJob.l1 (k + 1) y0 y1 y2 y3 y4 y5 y6))
 | 0 => ⟨fun _ _ _ _ r h => by simp [impl_encodeJob.l0] at h, fun _ _ _ _ _ _ _ r h => by simp [impl_encodeJob.l1] at h⟩
 | k + 1 => by
  obtain ⟨ih0, ih1⟩ := impl_encodeJob.mono_l k; refine ⟨?_, ?_⟩
  · intro y0 y1 y2 y3; unfold impl_encodeJob.l0; exact xq31
  · intro y0 y1 y2 y3 y4 y5 y6; unfold impl_encodeJob.l1; exact xq31
theorem impl_encodeJob.mono : ∀ a0 a1 a2 a3 a4 k, LeO (impl_encodeJob.f k a0 a1 a2 a3 a4) (impl_encodeJob.f (k + 1) a0 a1 a2 a3 a4) := by
 intro a0 a1 a2 a3 a4 k; obtain ⟨ih0, ih1⟩ := impl_encodeJob.mono_l k
 unfold impl_encodeJob.f
 exact xq31
def impl_encodeJob.T1 : Bool × List (List Nat × List Nat) := (true, [([], []), ([0], [0]), ([1], [1]), ([], []), ([3], [3]), ([4], [4]), ([2, 5], [2, 5]), ([], []), ([7], [7]), ([8], [8]), ([6, 9, 9], [6, 9]), ([10, 10, 0, 1, 2, 3, 4, 5, 6, 7, 8, 9, 10], [10])])
def impl_encodeJob.B1 : List Nat := [0, 1, 3, 0, 8, 24, 63, 0, 128, 384, 1023, 2047]
theorem impl_encodeJob.tab1 : rtab .any (opsOf Try.f80 1) = impl_encodeJob.T1 := by kernel_rfl
theorem impl_encodeJob.bits1 : waitsOk impl_encodeJob.T1.2 impl_encodeJob.B1 = true := by kernel_rfl
theorem impl_encodeJob.calls (k : Nat) (a0_0 : Int) (a0_1 : Int) (P0_2_ : Nat → Prop) (A0_2 : Option Addr) (c0_2 : Nat) (l0_2 : List Int) (P0_3_ : Nat → Prop) (A0_3 : Option Addr) (c0_3 : Nat) (l0_3 : List Int) (a0_4 : Int) (r : List Int) (w : World) (hs0_2 : Kd.V (Kd.int .i64) 3 w w.heap.size (fun k_ => P0_2_ k_) (.slice A0_2 l0_2.length c0_2) l0_2) (hs0_3 : Kd.V (Kd.int .i64) 3 w w.heap.size (fun k_ => P0_3_ k_) (.slice A0_3 l0_3.length c0_3) l0_3) (h : impl_encodeJob.f k a0_0 a0_1 l0_2 l0_3 a0_4 = some r) :
 Calls Try.prog 80 #[.agg #[.int .i64 a0_0, .int .i64 a0_1, .slice A0_2 l0_2.length c0_2, .slice A0_3 l0_3.length c0_3, .int .i64 a0_4]] w fun e w' => ∃ v0_ : Value, e = .returned (v0_) ∧ Kd.R (Kd.int .u8) 5 w' w.heap.size (fun k_ => (w.heap.size ≤ k_)) v0_ r ∧ Below w.heap.size w w' := by
 have hu104 := Try.underlying104; have HO0_2 := ak (show Kd.V (Kd.int .i64) 3 w w.heap.size (fun k_ => ((P0_2_ k_ ∨ P0_3_ k_) ∨ w.heap.size ≤ k_)) (.slice A0_2 l0_2.length c0_2) l0_2 from Kd.V_mono hs0_2 (fun k_ hk => .inl (.inl hk))); have HO0_3 := ak (show Kd.V (Kd.int .i64) 3 w w.heap.size (fun k_ => ((P0_2_ k_ ∨ P0_3_ k_) ∨ w.heap.size ≤ k_)) (.slice A0_3 l0_3.length c0_3) l0_3 from Kd.V_mono hs0_3 (fun k_ hk => .inl (.inr hk))); have HB := ak (Below.refl w.heap.size w); have H : ((some (([(a0_0) % 256, (a0_1) % 256] : List Int) : List Int)).bind fun y283 => ((impl_putNumber.f k a0_4).bind fun t286 => (if y283.length + t286.length < 140737488355328 then ((some (([l0_2, l0_3] : List (List Int)) : List (List Int))).bind fun y292 => (impl_encodeJob.l0 k (y283 ++ t286) y292 (y292.length : Int) 0)) else (none)))) = some r := h; clear h; obtain ⟨y283, hyq⟩ : ∃ y_ : List Int, y_ = (([(a0_0) % 256, (a0_1) % 256] : List Int)) := ⟨_, rfl⟩; replace H : ((impl_putNumber.f k a0_4).bind fun t286 => (if y283.length + t286.length < 140737488355328 then ((some (([l0_2, l0_3] : List (List Int)) : List (List Int))).bind fun y292 => (impl_encodeJob.l0 k (y283 ++ t286) y292 (y292.length : Int) 0)) else (none))) = some r := by first | (rw [hyq]; with_reducible exact H) | (have H2_ := (Option.bind_some _ _).symm.trans H; rw [hyq]; with_reducible exact H2_) | (have H2_ := (Option.bind_some _ _).symm.trans H; with_reducible exact H2_) | with_reducible exact H | (rw [hyq]; exact H) | exact H
 have Ny283 := ak hyq; clear hyq; replace H := Option.bind_eq_some_iff.mp H; obtain ⟨t286, A20, H⟩ := H; (try dsimp only at H); have A2 := ak A20; clear A20
 by_cases c3 : y283.length + t286.length < 140737488355328; rotate_left
 · rw [if_neg c3] at H; exact absurd H (by simp)
 rw [if_pos c3] at H; have LMc3 := ak c3; clear c3; obtain ⟨y289, hyq⟩ : ∃ y_ : List Int, y_ = (y283 ++ t286) := ⟨_, rfl⟩; replace H : ((some (([l0_2, l0_3] : List (List Int)) : List (List Int))).bind fun y292 => (impl_encodeJob.l0 k y289 y292 (y292.length : Int) 0)) = some r := by first | (rw [hyq]; with_reducible exact H) | (have H2_ := (Option.bind_some _ _).symm.trans H; rw [hyq]; with_reducible exact H2_) | (have H2_ := (Option.bind_some _ _).symm.trans H; with_reducible exact H2_) | with_reducible exact H | (rw [hyq]; exact H) | exact H
 have Ny289 := ak hyq; clear hyq; obtain ⟨y292, hyq⟩ : ∃ y_ : List (List Int), y_ = (([l0_2, l0_3] : List (List Int))) := ⟨_, rfl⟩; replace H : (impl_encodeJob.l0 k y289 y292 (y292.length : Int) 0) = some r := by first | (rw [hyq]; with_reducible exact H) | (have H2_ := (Option.bind_some _ _).symm.trans H; rw [hyq]; with_reducible exact H2_) | (have H2_ := (Option.bind_some _ _).symm.trans H; with_reducible exact H2_) | with_reducible exact H | (rw [hyq]; exact H) | exact H
 have Ny292 := ak hyq; clear hyq; have H' := ak H; clear H; go_enter Try.func80, Try.ntmps80
 try go_wp2_with (first | ((with_reducible refine gate_dst (N := 1) rfl ?_); refine boxA 1 #[.int .i64 a0_0, .int .i64 a0_1, .slice A0_2 l0_2.length c0_2, .slice A0_3 l0_3.length c0_3, .int .i64 a0_4] 104 ?_; intro gb282 hg w4 hbox hb; have BK282 := ak hbox; have GW282 := leA (w := w) hg; have GE282 := leA (w := w) hg; replace HO0_2 := vC HO0_2 hg hb; replace HO0_3 := vC HO0_3 hg hb; replace HB := bS hb; clear hb hbox hg))
 replace HO0_2 := ak (Kd.V_drew HO0_2.out); replace HO0_3 := ak (Kd.V_drew HO0_3.out); replace BK282 := ak (blk_drew BK282.out); replace HB := ak (below_drew1 HB.out); refine start_ (n := 12) (S := fun w' => w'.cell? ⟨gb282, 0, none⟩ = some (.int .i64 a0_0) ∧ w'.cell? ⟨gb282, 1, none⟩ = some (.int .i64 a0_1) ∧ w'.cell? ⟨gb282, 2, none⟩ = some (.slice A0_2 l0_2.length c0_2) ∧ w'.cell? ⟨gb282, 3, none⟩ = some (.slice A0_3 l0_3.length c0_3) ∧ w'.cell? ⟨gb282, 4, none⟩ = some (.int .i64 a0_4)) (ds := []) #[false, false, false, false, false, false, false, false, false, false, false, false] (by kernel_rfl) rfl rfl ⟨(blk_cell BK282.out 0).trans rfl, (blk_cell BK282.out 1).trans rfl, (blk_cell BK282.out 2).trans rfl, (blk_cell BK282.out 3).trans rfl, (blk_cell BK282.out 4).trans rfl⟩ (fun hHeld => ?_); refine with_tabW impl_encodeJob.tab1 impl_encodeJob.bits1 (fun HT_ HW_ => ?_)
 generalize w4.drew = w5 at HO0_2 HO0_3 BK282 HB hHeld ⊢
 refine pure_ (i := 0) (N := some 8) (v := ?_) (a' := ?_) #[true, false, false, false, false, false, false, false, false, false, false, false] rfl rfl (any_of HT_.out (by kernel_rfl)) (fun _ _ _ h => h) (Or.inl ⟨by rfl, ?_⟩) ?_ ?_
 rotate_left
 · intro w'; go_simp
   with_reducible rfl
 rotate_left
 · simp only [Act.put, sa, sb, sc, i64_w, i32_w]
   rfl
 refine pure_ (i := 3) (N := some 11) (v := ?_) (a' := ?_) #[true, false, false, true, false, false, false, false, false, false, false, false] rfl rfl (any_of HT_.out (by kernel_rfl)) (fun _ _ _ h => h) (Or.inl ⟨by rfl, ?_⟩) ?_ ?_
 rotate_left
 · intro w'; go_simp
   with_reducible rfl
 rotate_left
 · simp only [Act.put, sa, sb, sc, i64_w, i32_w]
   rfl
 refine pure_ (i := 7) (N := some 15) (v := ?_) (a' := ?_) #[true, false, false, true, false, false, false, true, false, false, false, false] rfl rfl (any_of HT_.out (by kernel_rfl)) (fun _ _ _ h => h) (Or.inl ⟨by rfl, ?_⟩) ?_ ?_
 rotate_left
 · intro w'; go_simp
   with_reducible rfl
 rotate_left
 · simp only [Act.put, sa, sb, sc, i64_w, i32_w]
   rfl
 refine take_ (i := 1) (N := some 9) (v := ?_) (a' := ?_) #[true, true, false, true, false, false, false, true, false, false, false, false] rfl rfl (take_ofW HT_.out HW_.out (by kernel_rfl)) (fun _ _ _ h => h) (Or.inl ⟨by rfl, ?_⟩) hHeld ?_ ?_
 rotate_left
 · rintro w' ⟨s0, s1, s2, s3, s4⟩
   go_simp
   with_reducible rfl
 rotate_left
 · simp only [Act.put, sa, sb, sc, i64_w, i32_w]
   rfl
 refine pure_ (i := 2) (N := some 10) (v := ?_) (a' := ?_) #[true, true, true, true, false, false, false, true, false, false, false, false] rfl rfl (any_of HT_.out (by kernel_rfl)) (fun _ _ _ h => h) (Or.inl ⟨by rfl, ?_⟩) ?_ ?_
 rotate_left
 · intro w'; go_simp
   with_reducible rfl
 rotate_left
 · simp only [Act.put, sa, sb, sc, i64_w, i32_w]
   rfl
 refine take_ (i := 4) (N := some 12) (v := ?_) (a' := ?_) #[true, true, true, true, true, false, false, true, false, false, false, false] rfl rfl (take_ofW HT_.out HW_.out (by kernel_rfl)) (fun _ _ _ h => h) (Or.inl ⟨by rfl, ?_⟩) hHeld ?_ ?_
 rotate_left
 · rintro w' ⟨s0, s1, s2, s3, s4⟩
   go_simp
   with_reducible rfl
 rotate_left
 · simp only [Act.put, sa, sb, sc, i64_w, i32_w]
   rfl
 refine pure_ (i := 5) (N := some 13) (v := ?_) (a' := ?_) #[true, true, true, true, true, true, false, true, false, false, false, false] rfl rfl (any_of HT_.out (by kernel_rfl)) (fun _ _ _ h => h) (Or.inl ⟨by rfl, ?_⟩) ?_ ?_
 rotate_left
 · intro w'; go_simp
   with_reducible rfl
 rotate_left
 · simp only [Act.put, sa, sb, sc, i64_w, i32_w]
   rfl
 refine take_ (i := 8) (N := some 16) (v := ?_) (a' := ?_) #[true, true, true, true, true, true, false, true, true, false, false, false] rfl rfl (take_ofW HT_.out HW_.out (by kernel_rfl)) (fun _ _ _ h => h) (Or.inl ⟨by rfl, ?_⟩) hHeld ?_ ?_
 rotate_left
 · rintro w' ⟨s0, s1, s2, s3, s4⟩
   go_simp
   with_reducible rfl
 rotate_left
 · simp only [Act.put, sa, sb, sc, i64_w, i32_w]
   rfl
 refine join_ (σ := Value × Value) 2 #[true, true, true, true, true, true, true, true, true, true, false, false] (fun s_ => [(14, s_.1), (17, s_.2)]) (fun s_ w' => (w'.cell? ⟨gb282, 0, none⟩ = some (.int .i64 a0_0) ∧ w'.cell? ⟨gb282, 1, none⟩ = some (.int .i64 a0_1) ∧ w'.cell? ⟨gb282, 2, none⟩ = some (.slice A0_2 l0_2.length c0_2) ∧ w'.cell? ⟨gb282, 3, none⟩ = some (.slice A0_3 l0_3.length c0_3) ∧ w'.cell? ⟨gb282, 4, none⟩ = some (.int .i64 a0_4)) ∧ (Kd.V (Kd.int .i64) 3 w' w.heap.size (fun k_ => ((P0_2_ k_ ∨ P0_3_ k_) ∨ w.heap.size ≤ k_) ∧ some k_ ≠ (s_.1 : Value).ownBlock ∧ some k_ ≠ (s_.2 : Value).ownBlock ∧ k_ ≠ gb282) (.slice A0_2 l0_2.length c0_2) l0_2) ∧ (Kd.V (Kd.int .i64) 3 w' w.heap.size (fun k_ => ((P0_2_ k_ ∨ P0_3_ k_) ∨ w.heap.size ≤ k_) ∧ some k_ ≠ (s_.1 : Value).ownBlock ∧ some k_ ≠ (s_.2 : Value).ownBlock ∧ k_ ≠ gb282) (.slice A0_3 l0_3.length c0_3) l0_3) ∧ (Kd.R (Kd.int .u8) 5 w' w.heap.size (fun k_ => (w.heap.size ≤ k_) ∧ some k_ ≠ (s_.2 : Value).ownBlock) s_.1 y283) ∧ (Kd.R (Kd.int .u8) 5 w' w.heap.size (fun k_ => (w.heap.size ≤ k_) ∧ some k_ ≠ (s_.1 : Value).ownBlock) s_.2 t286) ∧ (w'.heap[gb282]? = some (.cells #[.int .i64 a0_0, .int .i64 a0_1, .slice A0_2 l0_2.length c0_2, .slice A0_3 l0_3.length c0_3, .int .i64 a0_4] 104 (0, 0))) ∧ (Below w.heap.size w w')) ?_ ?_
 rotate_left
 · intro hCont; refine two_ (i := 6) (j := 9) (Ni := some 14) (Nj := some 17) #[true, true, true, true, true, true, true, true, true, false, false, false] #[true, true, true, true, true, true, false, true, true, true, false, false] rfl rfl rfl rfl (two_of HT_.out (by kernel_rfl)) (by decide) (by decide) (fun K hK => ?_) (fun K hK => ?_)
   · skip
     refine Kd.R_lit_step (Kd.int .u8) _ 5 ?hg (N := 14) ?hd (xs := ([(a0_0) % 256, (a0_1) % 256] : List Int)) (inner := [.int .u8 ((a0_0) % 256), .int .u8 ((a0_1) % 256)]) (ok := fun _ => True) (okp := fun _ => True) ?hr ?hp (fun _ hk => hk) trivial (Below.refl _ _) (Nat.le_refl _) (by simp) ?_; (case hd => rfl); (case hg => rfl); (case hr => exact xq4); (case hp => exact xq26)
     intro v284 w6 ho7 hb hg_ hnew_; clear hg_ hnew_; (first | rw [← Ny283.out] at ho7 | (simp only [Int.reduceToNat] at ho7; rw [← Ny283.out] at ho7))
     have HO285 := rL (Kd.R_newM (M := fun k_ => (w.heap.size ≤ k_)) ho7 (below_size belA) (fun k_ h_ => h_)); replace HO0_2 := vD HO0_2 (Kd.R_base ho7) hb; replace HO0_3 := vD HO0_3 (Kd.R_base ho7) hb; replace BK282 := bB BK282 hb; replace HB := bS hb; clear hb ho7; refine hK.out _ _ ⟨(blk_cell BK282.out 0).trans rfl, (blk_cell BK282.out 1).trans rfl, (blk_cell BK282.out 2).trans rfl, (blk_cell BK282.out 3).trans rfl, (blk_cell BK282.out 4).trans rfl⟩ (fun hHeld => ?_)
     clear hK K; refine norm_ (a' := ?_) ?_ ?_
     rotate_left
     · show Act.put _ (some 14) _ = _
       simp only [Act.put, sa, sb, sc, i64_w, i32_w]
       rfl
     refine one_ (i := 9) (N := some 17) #[true, true, true, true, true, true, true, true, true, true, false, false] rfl rfl (one_of HT_.out (by kernel_rfl)) (by decide) (fun K hK => ?_)
     refine goes_ Try.func137 (by kernel_rfl) rfl #[.int .i64 a0_4] (by rfl) rfl rfl xq8 ?_
     with_reducible refine (impl_putNumber.calls k a0_4 t286 _ A2.out).mono ?_
     rintro e w8 ⟨v287, rfl, ho0, hb⟩
     refine ⟨_, rfl, ?_⟩
     have HO288 := rL (Kd.R_new' (Kd.R_newM (M := fun k_ => (w.heap.size ≤ k_)) ho0 (below_size belA) (fun k_ h_ => h_)) (Kd.R_lt (rF HO285))); replace HO0_2 := vD HO0_2 (Kd.R_base ho0) hb; replace HO0_3 := vD HO0_3 (Kd.R_base ho0) hb; replace HO285 := ak (Kd.R_elder' (rF HO285) (Kd.R_base ho0) hb); replace BK282 := bB BK282 hb; replace HB := bS hb; (try clear hb ho0); refine hK.out _ _ ⟨(blk_cell BK282.out 0).trans rfl, (blk_cell BK282.out 1).trans rfl, (blk_cell BK282.out 2).trans rfl, (blk_cell BK282.out 3).trans rfl, (blk_cell BK282.out 4).trans rfl⟩ (fun hHeld => ?_)
     clear hK K; refine norm_ (a' := ?_) ?_ ?_
     rotate_left
     · show Act.put _ (some 17) _ = _
       simp only [Act.put, sa, sb, sc, i64_w, i32_w]
       rfl
     exact norm_ (by simp only [putAll, Act.put, sa, sb, sc]) (hCont (v284, v287) _ ⟨hHeld, (vE (Kd.V_mono HO0_2.out (fun _ hk => ⟨hk.1.1.1, ⟨hk.1.2, ⟨hk.2, hk.1.1.2⟩⟩⟩))), (vE (Kd.V_mono HO0_3.out (fun _ hk => ⟨hk.1.1.1, ⟨hk.1.2, ⟨hk.2, hk.1.1.2⟩⟩⟩))), xq42, xq43, blkA, belA⟩)
   · skip
     refine goes_ Try.func137 (by kernel_rfl) rfl #[.int .i64 a0_4] (by rfl) rfl rfl xq8 ?_
     with_reducible refine (impl_putNumber.calls k a0_4 t286 _ A2.out).mono ?_
     rintro e w6 ⟨v287, rfl, ho0, hb⟩
     refine ⟨_, rfl, ?_⟩
     have HO288 := rL (Kd.R_newM (M := fun k_ => (w.heap.size ≤ k_)) ho0 (below_size belA) (fun k_ h_ => h_)); replace HO0_2 := vD HO0_2 (Kd.R_base ho0) hb; replace HO0_3 := vD HO0_3 (Kd.R_base ho0) hb; replace BK282 := bB BK282 hb; replace HB := bS hb; (try clear hb ho0); refine hK.out _ _ ⟨(blk_cell BK282.out 0).trans rfl, (blk_cell BK282.out 1).trans rfl, (blk_cell BK282.out 2).trans rfl, (blk_cell BK282.out 3).trans rfl, (blk_cell BK282.out 4).trans rfl⟩ (fun hHeld => ?_)
     clear hK K; refine norm_ (a' := ?_) ?_ ?_
     rotate_left
     · show Act.put _ (some 17) _ = _
       simp only [Act.put, sa, sb, sc, i64_w, i32_w]
       rfl
     refine one_ (i := 6) (N := some 14) #[true, true, true, true, true, true, true, true, true, true, false, false] rfl rfl (one_of HT_.out (by kernel_rfl)) (by decide) (fun K hK => ?_)
     refine Kd.R_lit_step (Kd.int .u8) _ 5 ?hg (N := 14) ?hd (xs := ([(a0_0) % 256, (a0_1) % 256] : List Int)) (inner := [.int .u8 ((a0_0) % 256), .int .u8 ((a0_1) % 256)]) (ok := fun _ => True) (okp := fun _ => True) ?hr ?hp (fun _ hk => hk) trivial (Below.refl _ _) (Nat.le_refl _) (by simp) ?_; (case hd => rfl); (case hg => rfl); (case hr => exact xq4); (case hp => exact xq26)
     intro v284 w7 ho8 hb hg_ hnew_; clear hg_ hnew_; (first | rw [← Ny283.out] at ho8 | (simp only [Int.reduceToNat] at ho8; rw [← Ny283.out] at ho8))
     have HO285 := rL (Kd.R_new' (Kd.R_newM (M := fun k_ => (w.heap.size ≤ k_)) ho8 (below_size belA) (fun k_ h_ => h_)) (Kd.R_lt (rF HO288))); replace HO0_2 := vD HO0_2 (Kd.R_base ho8) hb; replace HO0_3 := vD HO0_3 (Kd.R_base ho8) hb; replace HO288 := ak (Kd.R_elder' (rF HO288) (Kd.R_base ho8) hb); replace BK282 := bB BK282 hb; replace HB := bS hb; clear hb ho8; refine hK.out _ _ ⟨(blk_cell BK282.out 0).trans rfl, (blk_cell BK282.out 1).trans rfl, (blk_cell BK282.out 2).trans rfl, (blk_cell BK282.out 3).trans rfl, (blk_cell BK282.out 4).trans rfl⟩ (fun hHeld => ?_)
     clear hK K; refine norm_ (a' := ?_) ?_ ?_
     rotate_left
     · show Act.put _ (some 14) _ = _
       simp only [Act.put, sa, sb, sc, i64_w, i32_w]
       rfl
     exact norm_ (by simp only [putAll, Act.put, sa, sb, sc]) (hCont (v284, v287) _ ⟨hHeld, (vE (Kd.V_mono HO0_2.out (fun _ hk => ⟨hk.1.1.1, ⟨hk.2, ⟨hk.1.2, hk.1.1.2⟩⟩⟩))), (vE (Kd.V_mono HO0_3.out (fun _ hk => ⟨hk.1.1.1, ⟨hk.2, ⟨hk.1.2, hk.1.1.2⟩⟩⟩))), xq42, xq43, blkA, belA⟩)
 rintro ⟨v284, v287⟩ w9 ⟨hS_, h0_, h1_, h2_, h3_, h4_, h5_⟩
 have n0_ : Aside0 (Kd.V (Kd.int .i64) 3 w9 w.heap.size (fun k_ => ((P0_2_ k_ ∨ P0_3_ k_) ∨ w.heap.size ≤ k_) ∧ some k_ ≠ (v284 : Value).ownBlock ∧ some k_ ≠ (v287 : Value).ownBlock ∧ k_ ≠ gb282) (.slice A0_2 l0_2.length c0_2) l0_2) := ⟨h0_⟩; have n1_ : Aside0 (Kd.V (Kd.int .i64) 3 w9 w.heap.size (fun k_ => ((P0_2_ k_ ∨ P0_3_ k_) ∨ w.heap.size ≤ k_) ∧ some k_ ≠ (v284 : Value).ownBlock ∧ some k_ ≠ (v287 : Value).ownBlock ∧ k_ ≠ gb282) (.slice A0_3 l0_3.length c0_3) l0_3) := ⟨h1_⟩; have n2_ : Aside0 (Kd.R (Kd.int .u8) 5 w9 w.heap.size (fun k_ => (w.heap.size ≤ k_) ∧ some k_ ≠ (v287 : Value).ownBlock) v284 y283) := ⟨h2_⟩; have n3_ : Aside0 (Kd.R (Kd.int .u8) 5 w9 w.heap.size (fun k_ => (w.heap.size ≤ k_) ∧ some k_ ≠ (v284 : Value).ownBlock) v287 t286) := ⟨h3_⟩; have n4_ : Aside0 (w9.heap[gb282]? = some (.cells #[.int .i64 a0_0, .int .i64 a0_1, .slice A0_2 l0_2.length c0_2, .slice A0_3 l0_3.length c0_3, .int .i64 a0_4] 104 (0, 0))) := ⟨h4_⟩; have n5_ : Aside0 (Below w.heap.size w w9) := ⟨h5_⟩; clear HO0_2; clear HO0_3; clear BK282; clear HB; clear h0_ h1_ h2_ h3_ h4_ h5_; have HO0_2 := n0_; have HO0_3 := n1_; have HO285 := n2_; have HO288 := n3_; have BK282 := n4_; have HB := n5_; clear n0_ n1_ n2_ n3_ n4_ n5_; have hHeld : w9.cell? ⟨gb282, 0, none⟩ = some (.int .i64 a0_0) ∧ w9.cell? ⟨gb282, 1, none⟩ = some (.int .i64 a0_1) ∧ w9.cell? ⟨gb282, 2, none⟩ = some (.slice A0_2 l0_2.length c0_2) ∧ w9.cell? ⟨gb282, 3, none⟩ = some (.slice A0_3 l0_3.length c0_3) ∧ w9.cell? ⟨gb282, 4, none⟩ = some (.int .i64 a0_4) := hS_; obtain ⟨Ao11, co11, eo11⟩ := Kd.R_slice HO288.out; (first | subst eo11 | (injection eo11 with f1_ f2_ f3_; have f4_ := f1_.symm; have f5_ := f3_.symm; clear f1_ f2_ f3_; subst f4_; subst f5_))
 refine norm_ (a' := ?_) ?_ ?_
 rotate_left
 · simp only [putAll, Act.put, sa, sb, sc]
   rfl
 refine one_ (i := 10) (N := some 18) #[true, true, true, true, true, true, true, true, true, true, true, false] rfl rfl (one_of HT_.out (by kernel_rfl)) (by decide) (fun K hK => ?_)
 refine Kd.R_append_rows_step (Kd.int .u8) (w0 := w) w.heap.size (by rfl) (.tmp 14) (.tmp 17) 22 5 (.int .u8 0) 1 rfl Try.underlying22 info5 rfl (by decide) (by omega) v284 y283 t286 _ _ _ (fun k_ => (w.heap.size ≤ k_) ∧ some k_ ≠ (.slice Ao11 t286.length co11 : Value).ownBlock) (fun _ => False) rfl rfl ?aO ?aR (fun _ _ h => h) (fun _ h => h.elim) ?aF ?aB ?aS ?aL ?_
 (case aR => repeat (first | exact (Kd.R_reads' HO288.out).2.2 | (with_reducible refine Kd.C_alloc ?_ _) | (with_reducible refine Kd.C_drewN ?_ _) | (with_reducible refine Kd.C_drew ?_)))
 (case aB => exact belA)
 (case aF => exact (fun k_ hk => ⟨(Nat.le_trans (below_size belA) hk), Kd.fresh' (Kd.R_lt (rF HO288)) k_ hk⟩))
 (case aO => exact (rF HO285))
 (case aS => exact (below_size belA))
 (case aL => have := LMc3.out; omega)
 intro v290 w10 ho hb hg hat; rw [← Ny289.out] at ho; have HO291 := ak ho; replace HO0_2 := ak (Kd.V_afterv (ok := (fun k_ => ((P0_2_ k_ ∨ P0_3_ k_) ∨ w.heap.size ≤ k_) ∧ some k_ ≠ (.slice Ao11 t286.length co11 : Value).ownBlock ∧ k_ ≠ gb282)) (vE (Kd.V_mono HO0_2.out (fun _ hk => ⟨⟨hk.1, ⟨hk.2.2.1, hk.2.2.2⟩⟩, hk.2.1⟩))) hg hat); replace HO0_3 := ak (Kd.V_afterv (ok := (fun k_ => ((P0_2_ k_ ∨ P0_3_ k_) ∨ w.heap.size ≤ k_) ∧ some k_ ≠ (.slice Ao11 t286.length co11 : Value).ownBlock ∧ k_ ≠ gb282)) (vE (Kd.V_mono HO0_3.out (fun _ hk => ⟨⟨hk.1, ⟨hk.2.2.1, hk.2.2.2⟩⟩, hk.2.1⟩))) hg hat); replace BK282 := ak (blk_grown (g := gb282) (o := .cells #[.int .i64 a0_0, .int .i64 a0_1, .slice A0_2 l0_2.length c0_2, .slice A0_3 l0_3.length c0_3, .int .i64 a0_4] 104 (0, 0)) blkA hg (Kd.R_ne HO285.out BK282.out (by decide))); replace HO288 := ak (Kd.R_after (ok := (fun k_ => (w.heap.size ≤ k_))) (rF HO288) hg hat); replace HB := ak hb; clear HO285; clear ho hb hg hat; refine hK.out _ _ ⟨(blk_cell BK282.out 0).trans rfl, (blk_cell BK282.out 1).trans rfl, (blk_cell BK282.out 2).trans rfl, (blk_cell BK282.out 3).trans rfl, (blk_cell BK282.out 4).trans rfl⟩ (fun hHeld => ?_)
 clear hK K; refine norm_ (a' := ?_) ?_ ?_
 rotate_left
 · show Act.put _ (some 18) _ = _
   simp only [Act.put, sa, sb, sc, i64_w, i32_w]
   rfl
 refine pure_ (i := 11) (N := some 3) (v := ?_) (a' := ?_) #[true, true, true, true, true, true, true, true, true, true, true, true] rfl rfl (any_of HT_.out (by kernel_rfl)) (fun _ _ _ h => h) (Or.inl ⟨by rfl, ?_⟩) ?_ ?_
 rotate_left
 · intro w'; go_simp
   with_reducible rfl
 rotate_left
 · simp only [Act.put, sa, sb, sc, i64_w, i32_w]
   rfl
 refine done_ (done_of HT_.out (by kernel_rfl)) ?_
 obtain ⟨_, _, _, _, _, _, _, _, _, _⟩ := cel5 BK282; try go_wp2_with (first | ((with_reducible refine gate_dst (N := 23) rfl ?_); refine Kd.N_lit (Kd.slice 3 (Kd.int .i64)) _ 27 ?hg (N' := 23) ?hd (xs := ([l0_2, l0_3] : List (List Int))) (inner := [.slice A0_2 l0_2.length c0_2, .slice A0_3 l0_3.length c0_3]) (ok := (fun k_ => ((P0_2_ k_ ∨ P0_3_ k_) ∨ w.heap.size ≤ k_) ∧ some k_ ≠ (.slice Ao11 t286.length co11 : Value).ownBlock ∧ some k_ ≠ (v290 : Value).ownBlock ∧ k_ ≠ gb282)) (okp := (fun k_ => ((P0_2_ k_ ∨ P0_3_ k_) ∨ w.heap.size ≤ k_) ∧ some k_ ≠ (.slice Ao11 t286.length co11 : Value).ownBlock ∧ some k_ ≠ (v290 : Value).ownBlock ∧ k_ ≠ gb282)) ?hr ?hp (fun _ hk => hk) ((show ∀ k_, w10.heap.size ≤ k_ → (fun k_ => ((P0_2_ k_ ∨ P0_3_ k_) ∨ w.heap.size ≤ k_) ∧ some k_ ≠ (.slice Ao11 t286.length co11 : Value).ownBlock ∧ some k_ ≠ (v290 : Value).ownBlock ∧ k_ ≠ gb282) k_ from fun k_ hk => ⟨(.inr (Nat.le_trans (below_size belA) hk)), Kd.fresh' (Kd.R_lt (rF HO288)) k_ hk, Kd.fresh' (Kd.R_lt (rF HO291)) k_ hk, Kd.freshB (g := gb282) (o := .cells #[.int .i64 a0_0, .int .i64 a0_1, .slice A0_2 l0_2.length c0_2, .slice A0_3 l0_3.length c0_3, .int .i64 a0_4] 104 (0, 0)) blkA k_ hk⟩) _ (Nat.le_refl _)) (Below.refl _ _) (Nat.le_refl _) (by simp) ?_; (case hd => rfl); (case hg => rfl); (case hr => exact xq4); (case hp => exact (Reps.one (show Kd.FK (Kd.slice 3 (Kd.int .i64)) _ _ l0_2 [.slice A0_2 l0_2.length c0_2] from (Kd.FK_slice_mk (Kd.V_reads' (Kd.V_mono (ok' := (fun k_ => ((P0_2_ k_ ∨ P0_3_ k_) ∨ w.heap.size ≤ k_) ∧ some k_ ≠ (.slice Ao11 t286.length co11 : Value).ownBlock ∧ some k_ ≠ (v290 : Value).ownBlock ∧ k_ ≠ gb282)) (HO0_2.out) (fun k_ hk => ⟨hk.1.1, ⟨hk.1.2.1, ⟨hk.2, hk.1.2.2⟩⟩⟩))).2.1 (Kd.V_F (Kd.V_mono (ok' := (fun k_ => ((P0_2_ k_ ∨ P0_3_ k_) ∨ w.heap.size ≤ k_) ∧ some k_ ≠ (.slice Ao11 t286.length co11 : Value).ownBlock ∧ some k_ ≠ (v290 : Value).ownBlock ∧ k_ ≠ gb282)) (HO0_2.out) (fun k_ hk => ⟨hk.1.1, ⟨hk.1.2.1, ⟨hk.2, hk.1.2.2⟩⟩⟩))))) (Reps.one (show Kd.FK (Kd.slice 3 (Kd.int .i64)) _ _ l0_3 [.slice A0_3 l0_3.length c0_3] from (Kd.FK_slice_mk (Kd.V_reads' (Kd.V_mono (ok' := (fun k_ => ((P0_2_ k_ ∨ P0_3_ k_) ∨ w.heap.size ≤ k_) ∧ some k_ ≠ (.slice Ao11 t286.length co11 : Value).ownBlock ∧ some k_ ≠ (v290 : Value).ownBlock ∧ k_ ≠ gb282)) (HO0_3.out) (fun k_ hk => ⟨hk.1.1, ⟨hk.1.2.1, ⟨hk.2, hk.1.2.2⟩⟩⟩))).2.1 (Kd.V_F (Kd.V_mono (ok' := (fun k_ => ((P0_2_ k_ ∨ P0_3_ k_) ∨ w.heap.size ≤ k_) ∧ some k_ ≠ (.slice Ao11 t286.length co11 : Value).ownBlock ∧ some k_ ≠ (v290 : Value).ownBlock ∧ k_ ≠ gb282)) (HO0_3.out) (fun k_ hk => ⟨hk.1.1, ⟨hk.1.2.1, ⟨hk.2, hk.1.2.2⟩⟩⟩))))) (Reps.none _ _)))); intro v293 w13 ho14 hb hg_ hnew_; clear hg_ hnew_; (first | rw [← Ny292.out] at ho14 | (simp only [Int.reduceToNat] at ho14; rw [← Ny292.out] at ho14)); have HO294 := nL ho14; replace HO0_2 := vD HO0_2 (Kd.N_base ho14) hb; replace HO0_3 := vD HO0_3 (Kd.N_base ho14) hb; replace HO288 := ak (Kd.R_below (rF HO288) hb); replace HO291 := ak (Kd.R_below (rF HO291) hb); replace BK282 := bB BK282 hb; replace HB := bS hb; clear hb ho14; obtain ⟨Ao15, co15, eo15⟩ := Kd.N_slice HO294.out; subst eo15))
 go_loopg [3, 25] k (fun kq v3 v25 w' => ∃ (x3_1 : List Int) (x25_1 : Int), v25 = .int .i64 x25_1 ∧ Aside0 (impl_encodeJob.l0 kq x3_1 y292 (y292.length : Int) x25_1 = some r) ∧ Aside0 (kq ≤ k) ∧ Aside0 (Kd.R (Kd.int .u8) 5 w' w.heap.size (fun k_ => (w.heap.size ≤ k_)) v3 x3_1) ∧ Aside0 (Kd.N (Kd.slice 3 (Kd.int .i64)) 27 w' w.heap.size (fun k_ => ((P0_2_ k_ ∨ P0_3_ k_) ∨ w.heap.size ≤ k_) ∧ some k_ ≠ (v3 : Value).ownBlock ∧ k_ ≠ gb282) (.slice Ao15 y292.length co15) y292) ∧ Aside0 (Kd.V (Kd.int .i64) 3 w' w.heap.size (fun k_ => ((P0_2_ k_ ∨ P0_3_ k_) ∨ w.heap.size ≤ k_) ∧ some k_ ≠ (v3 : Value).ownBlock ∧ some k_ ≠ ((.slice Ao15 y292.length co15) : Value).ownBlock ∧ k_ ≠ gb282) (.slice A0_2 l0_2.length c0_2) l0_2) ∧ Aside0 (Kd.V (Kd.int .i64) 3 w' w.heap.size (fun k_ => ((P0_2_ k_ ∨ P0_3_ k_) ∨ w.heap.size ≤ k_) ∧ some k_ ≠ (v3 : Value).ownBlock ∧ some k_ ≠ ((.slice Ao15 y292.length co15) : Value).ownBlock ∧ k_ ≠ gb282) (.slice A0_3 l0_3.length c0_3) l0_3) ∧ Aside0 (w'.heap[gb282]? = some (.cells #[.int .i64 a0_0, .int .i64 a0_1, (.slice A0_2 l0_2.length c0_2), (.slice A0_3 l0_3.length c0_3), .int .i64 a0_4] 104 (0, 0))) ∧ Aside0 (Below w.heap.size w w'))
 case atStart => exact ⟨(y289), (0), eqA, H', ⟨Nat.le_refl _⟩, ⟨rE (Kd.R_mono HO291.out (fun _ hk => hk.1))⟩, ⟨nE (Kd.N_mono HO294.out (fun _ hk => ⟨hk.1, ⟨hk.2.2.1, hk.2.2.2⟩⟩))⟩, ⟨vE (Kd.V_mono HO0_2.out (fun _ hk => ⟨hk.1.1.1, ⟨hk.1.2, ⟨hk.2, hk.1.1.2.2⟩⟩⟩))⟩, ⟨vE (Kd.V_mono HO0_3.out (fun _ hk => ⟨hk.1.1.1, ⟨hk.1.2, ⟨hk.2, hk.1.1.2.2⟩⟩⟩))⟩, ⟨blkA⟩, ⟨belA⟩⟩
 case round =>
  clear H'; obtain ⟨x3_1, x25_1, rfl, HA, HK1, HO_3, HO_23, HO_283002, HO_283003, BK282, HB⟩ := hrel
  cases gk with
  | zero => exact absurd HA.out (by simp [impl_encodeJob.l0])
  | succ k1 =>
   have H := HA.out; clear HA; simp only [impl_encodeJob.l0] at H
   by_cases c16 : x25_1 < (y292.length : Int); rotate_left
   · rw [if_neg c16] at H; have c16b0 := decide_eq_false c16; clear c16; obtain rfl := Option.some.inj H; go_wp2
     go_ret
     exact ⟨_, xq1, xq22, belA⟩
   rw [if_pos c16] at H; have c16b0 := decide_eq_true c16; clear c16
   by_cases c17 : 0 ≤ x25_1; rotate_left
   · rw [if_neg c17] at H; exact absurd H (by simp)
   rw [if_pos c17] at H; have c17b0 := decide_eq_true c17; clear c17
   by_cases c18 : x25_1 < (y292.length : Int); rotate_left
   · rw [if_neg c18] at H; exact absurd H (by simp)
   rw [if_pos c18] at H; have c18b0 := decide_eq_true c18; clear c18; replace H := Option.bind_eq_some_iff.mp H; obtain ⟨t296, A190, H⟩ := H; (try dsimp only at H); have A19 := ak A190; clear A190
   by_cases c20 : x3_1.length + t296.length < 140737488355328; rotate_left
   · rw [if_neg c20] at H; exact absurd H (by simp)
   rw [if_pos c20] at H; have LMc20 := ak c20; clear c20; obtain ⟨y299, hyq⟩ : ∃ y_ : List Int, y_ = (x3_1 ++ t296) := ⟨_, rfl⟩; replace H : (impl_encodeJob.l1 k1 y299 y292 (y292.length : Int) x25_1 (rd_L1 y292 x25_1) ((rd_L1 y292 x25_1).length : Int) 0) = some r := by first | (rw [hyq]; with_reducible exact H) | (have H2_ := (Option.bind_some _ _).symm.trans H; rw [hyq]; with_reducible exact H2_) | (have H2_ := (Option.bind_some _ _).symm.trans H; with_reducible exact H2_) | with_reducible exact H | (rw [hyq]; exact H) | exact H
   have Ny299 := ak hyq; clear hyq; have H' := ak H; clear H; have p295 : 0 ≤ (x25_1 : Int) := odA; have q295 : x25_1 < (y292.length : Int) := odA; obtain ⟨ad295, A295_0, c295_0, e295, hx295_0, hl295_0, hi295_0⟩ := at_L1 (Kd.N_reads' HO_23.out).2.2 x25_1 p295 q295
   cases e295
   obtain ⟨ce295, hce295, hMe295, hcc295⟩ := Kd.N_get HO_23.out [] x25_1 p295 (by first | exact q295 | exact odA | (have e_ := (Kd.N_reads' HO_23.out).1; omega)); obtain ⟨ua295_0, uc295_0, rfl, ul295_0, ge295_0⟩ := Kd.FK_slice_open hMe295; have hv295_0 := hcc295 0 _ rfl; rw [Nat.add_zero, show ((Kd.slice 3 (Kd.int .i64))).sz = 1 from rfl, Nat.mul_one] at hv295_0; replace hv295_0 := Option.some.inj (hv295_0.symm.trans hx295_0); injection hv295_0 with hva_ hvn_ hvc_
   rw [hva_] at ge295_0; rw [hvc_] at ul295_0; have HL295_0 := ak (show Kd.V (Kd.int .i64) 3 _ w.heap.size _ _ (rd_L1 y292 x25_1) from Kd.V_mk ul295_0 ge295_0); clear hva_ hvn_ hvc_ ge295_0 ul295_0; clear hcc295 hce295; have HR295_0 := ak hi295_0; have HC295_0 := ak hl295_0; clear hi295_0 hl295_0; replace p295 := eq_true p295; replace q295 := eq_true q295; go_wp2_with (first | ((with_reducible refine gate_callee (f := 137) rfl ?_); refine goB 32 Try.func137 #[.int .i64 ((rd_L1 y292 x25_1).length : Int)] rfl ?_; (with_reducible refine (impl_putNumber.calls k1 ((rd_L1 y292 x25_1).length : Int) t296 _ A19.out).mono ?_); rintro e w21 ⟨v297, rfl, ho0, hb⟩; refine ⟨_, rfl, ?_⟩; have HO298 := rL (Kd.R_new' (Kd.R_newM (M := fun k_ => (w.heap.size ≤ k_)) ho0 (below_size belA) (fun k_ h_ => h_)) (Kd.R_lt (rF HO_3))); replace HO_3 := ak (Kd.R_elder' (rF HO_3) (Kd.R_base ho0) hb); replace HO_23 := nD HO_23 (Kd.R_base ho0) hb; replace HO_283002 := vD HO_283002 (Kd.R_base ho0) hb; replace HO_283003 := vD HO_283003 (Kd.R_base ho0) hb; replace HL295_0 := vD HL295_0 (Kd.R_base ho0) hb; replace BK282 := bB BK282 hb; replace HR295_0 := ak (Kd.C_below (by repeat (first | (with_reducible exact HR295_0.out) | (with_reducible refine Kd.C_alloc ?_ _) | (with_reducible refine Kd.C_drewN ?_ _) | (with_reducible refine Kd.C_drew ?_) | exact HR295_0.out)) hb); replace HB := bS hb; (try clear hb ho0); obtain ⟨Ao23, co23, eo23⟩ := Kd.R_slice HO298.out; subst eo23) | ((with_reducible refine gate_builtin (b := .append) (xs := #[.tmp 29, .tmp 32]) rfl ?_); at_builtin; refine Kd.R_append_rows (Kd.int .u8) (w0 := w) w.heap.size rfl (.tmp 29) (.tmp 32) 22 5 (.int .u8 0) 1 rfl Try.underlying22 info5 rfl (by decide) (by omega) u3 x3_1 t296 _ _ _ (fun k_ => (w.heap.size ≤ k_) ∧ some k_ ≠ (.slice Ao23 t296.length co23 : Value).ownBlock) (fun _ => False) rfl rfl ?aO ?aR (fun _ _ h => h) (fun _ h => h.elim) ?aF ?aB ?aS ?aL ?_; (case aR => repeat (first | exact (Kd.R_reads' HO298.out).2.2 | (with_reducible refine Kd.C_alloc ?_ _) | (with_reducible refine Kd.C_drewN ?_ _) | (with_reducible refine Kd.C_drew ?_))); (case aB => exact belA); (case aF => exact (fun k_ hk => ⟨(Nat.le_trans (below_size belA) hk), Kd.fresh' (Kd.R_lt (rF HO298)) k_ hk⟩)); (case aO => exact (rF HO_3)); (case aS => exact (below_size belA)); (case aL => have := LMc20.out; omega); intro v300 w22 ho hb hg hat; rw [← Ny299.out] at ho; have HO301 := ak ho; replace HO_23 := ak (Kd.N_afterv (ok := (fun k_ => ((P0_2_ k_ ∨ P0_3_ k_) ∨ w.heap.size ≤ k_) ∧ some k_ ≠ (.slice Ao23 t296.length co23 : Value).ownBlock ∧ k_ ≠ gb282)) (nE (Kd.N_mono HO_23.out (fun _ hk => ⟨⟨hk.1.1, ⟨hk.2, hk.1.2.2⟩⟩, hk.1.2.1⟩))) hg hat); replace HO_283002 := ak (Kd.V_afterv (ok := (fun k_ => ((P0_2_ k_ ∨ P0_3_ k_) ∨ w.heap.size ≤ k_) ∧ some k_ ≠ (.slice (some ad295) y292.length co15 : Value).ownBlock ∧ some k_ ≠ (.slice Ao23 t296.length co23 : Value).ownBlock ∧ k_ ≠ gb282)) (vE (Kd.V_mono HO_283002.out (fun _ hk => ⟨⟨hk.1.1, ⟨hk.1.2.2.1, ⟨hk.2, hk.1.2.2.2⟩⟩⟩, hk.1.2.1⟩))) hg hat); replace HO_283003 := ak (Kd.V_afterv (ok := (fun k_ => ((P0_2_ k_ ∨ P0_3_ k_) ∨ w.heap.size ≤ k_) ∧ some k_ ≠ (.slice (some ad295) y292.length co15 : Value).ownBlock ∧ some k_ ≠ (.slice Ao23 t296.length co23 : Value).ownBlock ∧ k_ ≠ gb282)) (vE (Kd.V_mono HO_283003.out (fun _ hk => ⟨⟨hk.1.1, ⟨hk.1.2.2.1, ⟨hk.2, hk.1.2.2.2⟩⟩⟩, hk.1.2.1⟩))) hg hat); replace BK282 := ak (blk_grown (g := gb282) (o := .cells #[.int .i64 a0_0, .int .i64 a0_1, .slice A0_2 l0_2.length c0_2, .slice A0_3 l0_3.length c0_3, .int .i64 a0_4] 104 (0, 0)) blkA hg (Kd.R_ne HO_3.out BK282.out (by decide))); replace HL295_0 := ak (Kd.V_afterv (ok := (fun k_ => ((P0_2_ k_ ∨ P0_3_ k_) ∨ w.heap.size ≤ k_) ∧ some k_ ≠ (.slice (some ad295) y292.length co15 : Value).ownBlock ∧ some k_ ≠ (.slice Ao23 t296.length co23 : Value).ownBlock ∧ k_ ≠ gb282)) (vE (Kd.V_mono HL295_0.out (fun _ hk => ⟨⟨hk.1.1.1, ⟨hk.1.2, ⟨hk.2, hk.1.1.2.2⟩⟩⟩, hk.1.1.2.1⟩))) hg hat); replace HO298 := ak (Kd.R_after (ok := (fun k_ => (w.heap.size ≤ k_))) (by (with_reducible repeat (first | apply Kd.R_alloc | apply Kd.R_drewN | apply Kd.R_drew)); first | exact Kd.R_mono HO298.out (fun _ hk => ⟨hk.1.1, hk.2⟩) | exact Kd.R_mono HO298.out (fun _ _ => trivial)) hg hat); replace HB := ak hb; clear HO_3; clear ho hb hg hat))
   go_loopg [3, 36] k1 (fun kq v3 v36 w' => ∃ (x3_2 : List Int) (x36_2 : Int), v36 = .int .i64 x36_2 ∧ Aside0 (impl_encodeJob.l1 kq x3_2 y292 (y292.length : Int) x25_1 (rd_L1 y292 x25_1) ((rd_L1 y292 x25_1).length : Int) x36_2 = some r) ∧ Aside0 (kq ≤ k1) ∧ Aside0 (Kd.R (Kd.int .u8) 5 w' w.heap.size (fun k_ => (w.heap.size ≤ k_)) v3 x3_2) ∧ Aside0 (Kd.N (Kd.slice 3 (Kd.int .i64)) 27 w' w.heap.size (fun k_ => ((P0_2_ k_ ∨ P0_3_ k_) ∨ w.heap.size ≤ k_) ∧ some k_ ≠ (v3 : Value).ownBlock ∧ k_ ≠ gb282) (.slice (some ad295) y292.length co15) y292) ∧ Aside0 (Kd.V (Kd.int .i64) 3 w' w.heap.size (fun k_ => ((P0_2_ k_ ∨ P0_3_ k_) ∨ w.heap.size ≤ k_) ∧ some k_ ≠ (v3 : Value).ownBlock ∧ some k_ ≠ ((.slice (some ad295) y292.length co15) : Value).ownBlock ∧ k_ ≠ gb282) (.slice A0_2 l0_2.length c0_2) l0_2) ∧ Aside0 (Kd.V (Kd.int .i64) 3 w' w.heap.size (fun k_ => ((P0_2_ k_ ∨ P0_3_ k_) ∨ w.heap.size ≤ k_) ∧ some k_ ≠ (v3 : Value).ownBlock ∧ some k_ ≠ ((.slice (some ad295) y292.length co15) : Value).ownBlock ∧ k_ ≠ gb282) (.slice A0_3 l0_3.length c0_3) l0_3) ∧ Aside0 (Kd.V (Kd.int .i64) 3 w' w.heap.size (fun k_ => ((P0_2_ k_ ∨ P0_3_ k_) ∨ w.heap.size ≤ k_) ∧ some k_ ≠ (v3 : Value).ownBlock ∧ some k_ ≠ ((.slice (some ad295) y292.length co15) : Value).ownBlock ∧ k_ ≠ gb282) (.slice A295_0 (rd_L1 y292 x25_1).length c295_0) (rd_L1 y292 x25_1)) ∧ Aside0 (w'.heap[gb282]? = some (.cells #[.int .i64 a0_0, .int .i64 a0_1, (.slice A0_2 l0_2.length c0_2), (.slice A0_3 l0_3.length c0_3), .int .i64 a0_4] 104 (0, 0))) ∧ Aside0 (Below w.heap.size w w'))
   case atStart => exact ⟨(y299), (0), eqA, H', ⟨Nat.le_refl _⟩, ⟨rE (Kd.R_mono HO301.out (fun _ hk => hk.1))⟩, ⟨nE (Kd.N_mono HO_23.out (fun _ hk => ⟨hk.1.1, ⟨hk.2, hk.1.2.2⟩⟩))⟩, ⟨vE (Kd.V_mono HO_283002.out (fun _ hk => ⟨hk.1.1, ⟨hk.2, ⟨hk.1.2.1, hk.1.2.2.2⟩⟩⟩))⟩, ⟨vE (Kd.V_mono HO_283003.out (fun _ hk => ⟨hk.1.1, ⟨hk.2, ⟨hk.1.2.1, hk.1.2.2.2⟩⟩⟩))⟩, ⟨vE (Kd.V_mono HL295_0.out (fun _ hk => ⟨hk.1.1, ⟨hk.2, ⟨hk.1.2.1, hk.1.2.2.2⟩⟩⟩))⟩, ⟨blkA⟩, ⟨belA⟩⟩
   case round =>
    clear H'; obtain ⟨x3_2, x36_2, rfl, HA, HK2, HO_3, HO_23, HO_283002, HO_283003, HM295, BK282, HB⟩ := hrel
    cases gk with
    | zero => exact absurd HA.out (by simp [impl_encodeJob.l1])
    | succ k2 =>
     have H := HA.out; clear HA; simp only [impl_encodeJob.l1] at H
     by_cases c24 : x36_2 < ((rd_L1 y292 x25_1).length : Int); rotate_left
     · rw [if_neg c24] at H; have c24b0 := decide_eq_false c24; clear c24; have H' := ak H; clear H; go_wp2
       go_roundg k2
       case measure => have := HK1.out; have := HK2.out; omega
       case rel => exact ⟨(x3_2), (wrap64 (x25_1 + 1)), eqA, H', ⟨xq16⟩, ⟨rA HO_3⟩, ⟨nA HO_23⟩, ⟨vA HO_283002⟩, ⟨vA HO_283003⟩, ⟨blkA⟩, ⟨belA⟩⟩
     rw [if_pos c24] at H; have c24b0 := decide_eq_true c24; clear c24
     by_cases c25 : 0 ≤ x36_2; rotate_left
     · rw [if_neg c25] at H; exact absurd H (by simp)
     rw [if_pos c25] at H; have c25b0 := decide_eq_true c25; clear c25
     by_cases c26 : x36_2 < ((rd_L1 y292 x25_1).length : Int); rotate_left
     · rw [if_neg c26] at H; exact absurd H (by simp)
     rw [if_pos c26] at H; have c26b0 := decide_eq_true c26; clear c26; replace H := Option.bind_eq_some_iff.mp H; obtain ⟨t303, A270, H⟩ := H; (try dsimp only at H); have A27 := ak A270; clear A270
     by_cases c28 : x3_2.length + t303.length < 140737488355328; rotate_left
     · rw [if_neg c28] at H; exact absurd H (by simp)
     rw [if_pos c28] at H; have LMc28 := ak c28; clear c28; obtain ⟨y306, hyq⟩ : ∃ y_ : List Int, y_ = (x3_2 ++ t303) := ⟨_, rfl⟩; replace H : (impl_encodeJob.l1 k2 y306 y292 (y292.length : Int) x25_1 (rd_L1 y292 x25_1) ((rd_L1 y292 x25_1).length : Int) (wrap64 (x36_2 + 1))) = some r := by first | (rw [hyq]; with_reducible exact H) | (have H2_ := (Option.bind_some _ _).symm.trans H; rw [hyq]; with_reducible exact H2_) | (have H2_ := (Option.bind_some _ _).symm.trans H; with_reducible exact H2_) | with_reducible exact H | (rw [hyq]; exact H) | exact H
     have Ny306 := ak hyq; clear hyq; have H' := ak H; clear H; have p302 : 0 ≤ (x36_2 : Int) := odA; have q302 : x36_2 < ((rd_L1 y292 x25_1).length : Int) := odA; obtain ⟨ad302, e302, hx302_0⟩ := Kd.at_int (Kd.V_reads' HM295.out).2.2 x36_2 p302 q302
     cases e302
     try replace hx302_0 := cB HB hx302_0
     replace p302 := eq_true p302; replace q302 := eq_true q302; go_wp2_with (first | ((with_reducible refine gate_callee (f := 137) rfl ?_); refine goB 42 Try.func137 #[.int .i64 (rd (rd_L1 y292 x25_1) x36_2)] rfl ?_; (with_reducible refine (impl_putNumber.calls k2 (rd (rd_L1 y292 x25_1) x36_2) t303 _ A27.out).mono ?_); rintro e w29 ⟨v304, rfl, ho0, hb⟩; refine ⟨_, rfl, ?_⟩; have n0_ := ak (Kd.R_elder' (rF HO_3) (Kd.R_base ho0) hb); have n1_ := nD HO_23 (Kd.R_base ho0) hb; have n2_ := vD HO_283002 (Kd.R_base ho0) hb; have n3_ := vD HO_283003 (Kd.R_base ho0) hb; have m0_ := vD HM295 (Kd.R_base ho0) hb; have n4_ := rL (Kd.R_new' (Kd.R_newM (M := fun k_ => (w.heap.size ≤ k_)) ho0 (below_size belA) (fun k_ h_ => h_)) (Kd.R_lt (rF HO_3))); have n5_ := bB BK282 hb; have n6_ := bS hb; clear HO_3; clear HO_23; clear HO_283002; clear HO_283003; clear HM295; clear BK282; clear HB; have HO_3 := n0_; have HO_23 := n1_; have HO_283002 := n2_; have HO_283003 := n3_; have HM295 := m0_; clear m0_; have HO305 := n4_; have BK282 := n5_; have HB := n6_; clear n0_ n1_ n2_ n3_ n4_ n5_ n6_; (try clear hb ho0); obtain ⟨Ao31, co31, eo31⟩ := Kd.R_slice HO305.out; subst eo31) | ((with_reducible refine gate_builtin (b := .append) (xs := #[.tmp 40, .tmp 42]) rfl ?_); at_builtin; refine Kd.R_append_rows (Kd.int .u8) (w0 := w) w.heap.size rfl (.tmp 40) (.tmp 42) 22 5 (.int .u8 0) 1 rfl Try.underlying22 info5 rfl (by decide) (by omega) u3 x3_2 t303 _ _ _ (fun k_ => (w.heap.size ≤ k_) ∧ some k_ ≠ (.slice Ao31 t303.length co31 : Value).ownBlock) (fun _ => False) rfl rfl ?aO ?aR (fun _ _ h => h) (fun _ h => h.elim) ?aF ?aB ?aS ?aL ?_; (case aR => repeat (first | exact (Kd.R_reads' HO305.out).2.2 | (with_reducible refine Kd.C_alloc ?_ _) | (with_reducible refine Kd.C_drewN ?_ _) | (with_reducible refine Kd.C_drew ?_))); (case aB => exact belA); (case aF => exact (fun k_ hk => ⟨(Nat.le_trans (below_size belA) hk), Kd.fresh' (Kd.R_lt (rF HO305)) k_ hk⟩)); (case aO => exact (rF HO_3)); (case aS => exact (below_size belA)); (case aL => have := LMc28.out; omega); intro v307 w30 ho hb hg hat; rw [← Ny306.out] at ho; have n0_ := ak (Kd.N_afterv (ok := (fun k_ => ((P0_2_ k_ ∨ P0_3_ k_) ∨ w.heap.size ≤ k_) ∧ some k_ ≠ (.slice Ao31 t303.length co31 : Value).ownBlock ∧ k_ ≠ gb282)) (nE (Kd.N_mono HO_23.out (fun _ hk => ⟨⟨hk.1.1, ⟨hk.2, hk.1.2.2⟩⟩, hk.1.2.1⟩))) hg hat); have n1_ := ak (Kd.V_afterv (ok := (fun k_ => ((P0_2_ k_ ∨ P0_3_ k_) ∨ w.heap.size ≤ k_) ∧ some k_ ≠ (.slice (some ad295) y292.length co15 : Value).ownBlock ∧ some k_ ≠ (.slice Ao31 t303.length co31 : Value).ownBlock ∧ k_ ≠ gb282)) (vE (Kd.V_mono HO_283002.out (fun _ hk => ⟨⟨hk.1.1, ⟨hk.1.2.2.1, ⟨hk.2, hk.1.2.2.2⟩⟩⟩, hk.1.2.1⟩))) hg hat); have n2_ := ak (Kd.V_afterv (ok := (fun k_ => ((P0_2_ k_ ∨ P0_3_ k_) ∨ w.heap.size ≤ k_) ∧ some k_ ≠ (.slice (some ad295) y292.length co15 : Value).ownBlock ∧ some k_ ≠ (.slice Ao31 t303.length co31 : Value).ownBlock ∧ k_ ≠ gb282)) (vE (Kd.V_mono HO_283003.out (fun _ hk => ⟨⟨hk.1.1, ⟨hk.1.2.2.1, ⟨hk.2, hk.1.2.2.2⟩⟩⟩, hk.1.2.1⟩))) hg hat); have m0_ := ak (Kd.V_afterv (ok := (fun k_ => ((P0_2_ k_ ∨ P0_3_ k_) ∨ w.heap.size ≤ k_) ∧ some k_ ≠ (.slice (some ad295) y292.length co15 : Value).ownBlock ∧ some k_ ≠ (.slice Ao31 t303.length co31 : Value).ownBlock ∧ k_ ≠ gb282)) (vE (Kd.V_mono HM295.out (fun _ hk => ⟨⟨hk.1.1, ⟨hk.1.2.2.1, ⟨hk.2, hk.1.2.2.2⟩⟩⟩, hk.1.2.1⟩))) hg hat); have n3_ := ak (blk_grown (g := gb282) (o := .cells #[.int .i64 a0_0, .int .i64 a0_1, .slice A0_2 l0_2.length c0_2, .slice A0_3 l0_3.length c0_3, .int .i64 a0_4] 104 (0, 0)) blkA hg (Kd.R_ne HO_3.out BK282.out (by decide))); have n4_ := ak (Kd.R_after (ok := (fun k_ => (w.heap.size ≤ k_))) (by (with_reducible repeat (first | apply Kd.R_alloc | apply Kd.R_drewN | apply Kd.R_drew)); first | exact Kd.R_mono HO305.out (fun _ hk => ⟨hk.1.1, hk.2⟩) | exact Kd.R_mono HO305.out (fun _ _ => trivial)) hg hat); have n5_ := ak hb; have n6_ := ak ho; clear HO_23; clear HO_283002; clear HO_283003; clear HM295; clear BK282; clear HO305; clear HB; clear HO_3; have HO_23 := n0_; have HO_283002 := n1_; have HO_283003 := n2_; have BK282 := n3_; have HM295 := m0_; clear m0_; have HO305 := n4_; have HB := n5_; have HO308 := n6_; clear n0_ n1_ n2_ n3_ n4_ n5_ n6_; clear ho hb hg hat))
     go_roundg k2
     case measure => have := HK1.out; have := HK2.out; omega
     case rel => exact ⟨(y306), (wrap64 (x36_2 + 1)), eqA, H', ⟨xq16⟩, ⟨rE (Kd.R_mono HO308.out (fun _ hk => hk.1))⟩, ⟨nE (Kd.N_mono HO_23.out (fun _ hk => ⟨hk.1.1, ⟨hk.2, hk.1.2.2⟩⟩))⟩, ⟨vE (Kd.V_mono HO_283002.out (fun _ hk => ⟨hk.1.1, ⟨hk.2, ⟨hk.1.2.1, hk.1.2.2.2⟩⟩⟩))⟩, ⟨vE (Kd.V_mono HO_283003.out (fun _ hk => ⟨hk.1.1, ⟨hk.2, ⟨hk.1.2.1, hk.1.2.2.2⟩⟩⟩))⟩, ⟨vE (Kd.V_mono HM295.out (fun _ hk => ⟨hk.1.1, ⟨hk.2, ⟨hk.1.2.1, hk.1.2.2.2⟩⟩⟩))⟩, ⟨blkA⟩, ⟨belA⟩⟩

def impl_isFrame.f (a0_0 : Int) (a0_1 : Int) (l0_2 : List Int) : Option (Bool) := if a0_0 ≥ 0 then (if a0_0 ≤ 99 then (if a0_1 ≥ 0 then (if a0_1 ≤ 2147483647 then (some (decide ((l0_2.length : Int) ≤ 5000))) else (some false)) else (some false)) else (some false)) else (some false)
theorem impl_isFrame.calls (a0_0 : Int) (a0_1 : Int) (A0_2 : Option Addr) (c0_2 : Nat) (l0_2 : List Int) (r : Bool) (w : World) (hr0_2 : Kd.C (Kd.int .u8) w A0_2 l0_2.length l0_2) (hc0_2 : l0_2.length ≤ c0_2) (h : impl_isFrame.f a0_0 a0_1 l0_2 = some r) :
 Calls Try.prog 81 #[.agg #[.int .i64 a0_0, .int .i64 a0_1, .slice A0_2 l0_2.length c0_2]] w fun e w' => e = .returned (.bool r) ∧ Below w.heap.size w w' := by
 have hu109 := Try.underlying109; have HR0_2 := ak hr0_2; have HC0_2 := ak hc0_2; clear hr0_2 hc0_2; have HB := ak (Below.refl w.heap.size w); have H : (if a0_0 ≥ 0 then (if a0_0 ≤ 99 then (if a0_1 ≥ 0 then (if a0_1 ≤ 2147483647 then (some (decide ((l0_2.length : Int) ≤ 5000))) else (some false)) else (some false)) else (some false)) else (some false)) = some r := h; clear h
 by_cases c2 : a0_0 ≥ 0; rotate_left
 · rw [if_neg c2] at H; have c2b0 : decide (0 ≤ a0_0) = false := decide_eq_false c2; clear c2; obtain rfl := Option.some.inj H; go_enter Try.func81, Try.ntmps81
   go_wp2_with (first | ((with_reducible refine gate_dst (N := 1) rfl ?_); (try (refine gate_guard (by rfl) ?_; dsimp only)); refine boxA 1 #[.int .i64 a0_0, .int .i64 a0_1, .slice A0_2 l0_2.length c0_2] 109 ?_; intro gb309 hg w14 hbox hb; have BK309 := ak hbox; have GW309 := leA (w := w) hg; have GE309 := leA (w := w) hg; replace HB := bS hb; clear hb hbox hg; obtain ⟨_, _, _, _, _, _⟩ := cel3 BK309))
   go_ret
   exact ⟨xq1, belA⟩
 rw [if_pos c2] at H; have c2b0 : decide (0 ≤ a0_0) = true := decide_eq_true c2; clear c2
 by_cases c3 : a0_0 ≤ 99; rotate_left
 · rw [if_neg c3] at H; have c3b0 := decide_eq_false c3; clear c3; obtain rfl := Option.some.inj H; go_enter Try.func81, Try.ntmps81
   go_wp2_with (first | ((with_reducible refine gate_dst (N := 1) rfl ?_); (try (refine gate_guard (by rfl) ?_; dsimp only)); refine boxA 1 #[.int .i64 a0_0, .int .i64 a0_1, .slice A0_2 l0_2.length c0_2] 109 ?_; intro gb309 hg w12 hbox hb; have BK309 := ak hbox; have GW309 := leA (w := w) hg; have GE309 := leA (w := w) hg; replace HB := bS hb; clear hb hbox hg; obtain ⟨_, _, _, _, _, _⟩ := cel3 BK309))
   go_ret
   exact ⟨xq1, belA⟩
 rw [if_pos c3] at H; have c3b0 := decide_eq_true c3; clear c3
 by_cases c4 : a0_1 ≥ 0; rotate_left
 · rw [if_neg c4] at H; have c4b0 : decide (0 ≤ a0_1) = false := decide_eq_false c4; clear c4; obtain rfl := Option.some.inj H; go_enter Try.func81, Try.ntmps81
   go_wp2_with (first | ((with_reducible refine gate_dst (N := 1) rfl ?_); (try (refine gate_guard (by rfl) ?_; dsimp only)); refine boxA 1 #[.int .i64 a0_0, .int .i64 a0_1, .slice A0_2 l0_2.length c0_2] 109 ?_; intro gb309 hg w10 hbox hb; have BK309 := ak hbox; have GW309 := leA (w := w) hg; have GE309 := leA (w := w) hg; replace HB := bS hb; clear hb hbox hg; obtain ⟨_, _, _, _, _, _⟩ := cel3 BK309))
   go_ret
   exact ⟨xq1, belA⟩
 rw [if_pos c4] at H; have c4b0 : decide (0 ≤ a0_1) = true := decide_eq_true c4; clear c4
 by_cases c5 : a0_1 ≤ 2147483647
 · rw [if_pos c5] at H; have c5b0 := decide_eq_true c5; clear c5; obtain rfl := Option.some.inj H; go_enter Try.func81, Try.ntmps81
   go_wp2_with (first | ((with_reducible refine gate_dst (N := 1) rfl ?_); (try (refine gate_guard (by rfl) ?_; dsimp only)); refine boxA 1 #[.int .i64 a0_0, .int .i64 a0_1, .slice A0_2 l0_2.length c0_2] 109 ?_; intro gb309 hg w6 hbox hb; have BK309 := ak hbox; have GW309 := leA (w := w) hg; have GE309 := leA (w := w) hg; replace HB := bS hb; clear hb hbox hg; obtain ⟨_, _, _, _, _, _⟩ := cel3 BK309))
   go_ret
   exact ⟨xq1, belA⟩
 rw [if_neg c5] at H; have c5b0 := decide_eq_false c5; clear c5; obtain rfl := Option.some.inj H; go_enter Try.func81, Try.ntmps81
 go_wp2_with (first | ((with_reducible refine gate_dst (N := 1) rfl ?_); (try (refine gate_guard (by rfl) ?_; dsimp only)); refine boxA 1 #[.int .i64 a0_0, .int .i64 a0_1, .slice A0_2 l0_2.length c0_2] 109 ?_; intro gb309 hg w8 hbox hb; have BK309 := ak hbox; have GW309 := leA (w := w) hg; have GE309 := leA (w := w) hg; replace HB := bS hb; clear hb hbox hg; obtain ⟨_, _, _, _, _, _⟩ := cel3 BK309))
 go_ret
 exact ⟨xq1, belA⟩

def impl_bigEndian.l0 : Nat → Int → List Int → Int → Option (List Int)
 | 0, _, _, _ => none
 | k + 1, x0, x5, x6 => if x6 ≥ 0 then (if 0 ≤ x6 then (if x6 < (x5.length : Int) then (impl_bigEndian.l0 k (x0 / 256) (x5.set (x6 : Int).toNat ((x0) % 256)) (wrap64 (x6 - 1))) else (none)) else (none)) else (some x5)
def impl_bigEndian.f (k : Nat) (a0 : Int) (a1 : Int) : Option (List Int) := if 0 ≤ a1 then (if (a1 : Int).toNat ≤ 281474976710656 then (impl_bigEndian.l0 k a0 (List.replicate (a1 : Int).toNat 0) (wrap64 (a1 - 1))) else (none)) else (none)
theorem impl_bigEndian.mono_l : ∀ k, (∀ y0 y1 y2, LeO (impl_bigEndian.l0 k y0 y1 y2) (impl_bigEndian.l0 (k + 1) y0 y1 y2))
 | 0 => fun _ _ _ r h => by simp [impl_bigEndian.l0] at h
 | k + 1 => by
  have ih0 := impl_bigEndian.mono_l k
  · intro y0 y1 y2; unfold impl_bigEndian.l0; exact xq5
theorem impl_bigEndian.mono : ∀ a0 a1 k, LeO (impl_bigEndian.f k a0 a1) (impl_bigEndian.f (k + 1) a0 a1) := by
 intro a0 a1 k; have ih0 := impl_bigEndian.mono_l k
 unfold impl_bigEndian.f
 exact xq5
theorem impl_bigEndian.calls (k : Nat) (a0 : Int) (a1 : Int) (r : List Int) (w : World) (h : impl_bigEndian.f k a0 a1 = some r) :
 Calls Try.prog 138 #[.int .i64 a0, .int .i64 a1] w fun e w' => ∃ v0_ : Value, e = .returned (v0_) ∧ Kd.R (Kd.int .u8) 5 w' w.heap.size (fun _ => True) v0_ r ∧ Below w.heap.size w w' := by
 have HB := ak (Below.refl w.heap.size w); have H : (if 0 ≤ a1 then (if (a1 : Int).toNat ≤ 281474976710656 then (impl_bigEndian.l0 k a0 (List.replicate (a1 : Int).toNat 0) (wrap64 (a1 - 1))) else (none)) else (none)) = some r := h; clear h
 by_cases c3 : 0 ≤ a1; rotate_left
 · rw [if_neg c3] at H; exact absurd H (by simp)
 rw [if_pos c3] at H; have c3b0 := eq_true c3; have c3b1 : decide (0 ≤ a1) = true := decide_eq_true c3; clear c3
 by_cases c4 : (a1 : Int).toNat ≤ 281474976710656; rotate_left
 · rw [if_neg c4] at H; exact absurd H (by simp)
 rw [if_pos c4] at H; have c4b0 := eq_true c4; have c4b1 : decide ((a1 : Int).toNat ≤ 281474976710656) = true := decide_eq_true c4; clear c4; obtain ⟨y310, hyq⟩ : ∃ y_ : List Int, y_ = (List.replicate (a1 : Int).toNat 0) := ⟨_, rfl⟩; replace H : (impl_bigEndian.l0 k a0 y310 (wrap64 (a1 - 1))) = some r := by first | (rw [hyq]; with_reducible exact H) | (have H2_ := (Option.bind_some _ _).symm.trans H; rw [hyq]; with_reducible exact H2_) | (have H2_ := (Option.bind_some _ _).symm.trans H; with_reducible exact H2_) | with_reducible exact H | (rw [hyq]; exact H) | exact H
 have Ny310 := ak hyq; clear hyq; have H' := ak H; clear H; go_enter Try.func138, Try.ntmps138
 go_wp2_with (first | ((with_reducible refine gate_dst (N := 8) rfl ?_); refine Kd.R_make (Kd.int .u8) _ 5 rfl (N := 8) rfl 22 _ _ rfl a1 rfl rfl Try.underlying22 (.int .u8 0) 1 info5 rfl (by decide) (by omega) 0 (ok := fun _ => True) (okp := fun _ => True) rfl (fun _ hk => hk) trivial (odA) (Nat.le_trans (Nat.mul_le_mul_right _ (odA : a1.toNat ≤ 281474976710656)) (by omega)) (Below.refl _ _) (Nat.le_refl _) ?_; intro v311 w5 ho6 hb hg_ hnew_; clear hg_ hnew_; (first | rw [← Ny310.out] at ho6 | (simp only [Int.reduceToNat] at ho6; rw [← Ny310.out] at ho6)); have HO312 := rL ho6; replace HB := bS hb; clear hb ho6))
 go_loopg [0, 6] k (fun kq v0 v6 w' => ∃ (x0_1 : Int) (x5_1 : List Int) (x6_1 : Int), v0 = .int .i64 x0_1 ∧ v6 = .int .i64 x6_1 ∧ Aside0 (impl_bigEndian.l0 kq x0_1 x5_1 x6_1 = some r) ∧ Aside0 (kq ≤ k) ∧ Aside0 (Kd.R (Kd.int .u8) 5 w' w.heap.size (fun _ => True) v311 x5_1) ∧ Aside0 (Below w.heap.size w w'))
 case atStart => exact ⟨(a0), (y310), (wrap64 (a1 - 1)), eqA, eqA, H', ⟨Nat.le_refl _⟩, ⟨rA HO312⟩, ⟨belA⟩⟩
 case round =>
  clear H'; obtain ⟨x0_1, x5_1, x6_1, rfl, rfl, HA, HK1, HO_5, HB⟩ := hrel
  cases gk with
  | zero => exact absurd HA.out (by simp [impl_bigEndian.l0])
  | succ k1 =>
   have H := HA.out; clear HA; simp only [impl_bigEndian.l0] at H
   by_cases c7 : x6_1 ≥ 0; rotate_left
   · rw [if_neg c7] at H; have c7b0 : decide (0 ≤ x6_1) = false := decide_eq_false c7; clear c7; obtain rfl := Option.some.inj H; go_wp2
     go_ret
     exact ⟨_, xq1, xq23, belA⟩
   rw [if_pos c7] at H; have c7b0 : decide (0 ≤ x6_1) = true := decide_eq_true c7; clear c7
   by_cases c8 : 0 ≤ x6_1; rotate_left
   · rw [if_neg c8] at H; exact absurd H (by simp)
   rw [if_pos c8] at H; have c8b0 := decide_eq_true c8; clear c8
   by_cases c9 : x6_1 < (x5_1.length : Int); rotate_left
   · rw [if_neg c9] at H; exact absurd H (by simp)
   rw [if_pos c9] at H; have c9b0 := decide_eq_true c9; clear c9; obtain ⟨y313, hyq⟩ : ∃ y_ : List Int, y_ = (x5_1.set (x6_1 : Int).toNat ((x0_1) % 256)) := ⟨_, rfl⟩; replace H : (impl_bigEndian.l0 k1 (x0_1 / 256) y313 (wrap64 (x6_1 - 1))) = some r := by first | (rw [hyq]; with_reducible exact H) | (have H2_ := (Option.bind_some _ _).symm.trans H; rw [hyq]; with_reducible exact H2_) | (have H2_ := (Option.bind_some _ _).symm.trans H; with_reducible exact H2_) | with_reducible exact H | (rw [hyq]; exact H) | exact H
   have Ny313 := ak hyq; clear hyq; have H' := ak H; clear H; have p10 : 0 ≤ (x6_1 : Int) := odA; have q10 : (x6_1 : Int) < ((x5_1.length : Int) : Int) := odA; obtain ⟨go10, co10, eo10, gb10, gl10, cl10, HG10⟩ := Kd.R_form HO_5.out (by omega); (first | cases eo10 | (injection eo10 with ea_ en_ ec_; (first | subst ea_ | (injection ea_ with ea_; subst ea_)); subst ec_; clear en_))
   have GB10 := ak gb10; have GG10 := ak HG10; clear gb10 gl10 HG10; obtain ⟨hx10_0, hf10_0⟩ := Kd.R_celln 0 HO_5.out (x6_1 : Int) p10 q10; replace p10 := eq_true p10; replace q10 := eq_true q10; have HP11 := Kd.R_putg HO_5.out (x6_1 : Int) ((x0_1) % 256); go_wp2_with (first | ((with_reducible refine gate_store (t := 5) (p := 19) rfl ?_); refine store_event (t := 5) (p := 19) (v := ?vo_w12) (w1 := (wr.setCell ⟨go10, (x6_1 : Int).toNat, none⟩ (.int .u8 ((x0_1) % 256)))) ?hg ?ho ?hn ?hr ?_; (case ho => rfl); (case hg => rfl); (case hn => rfl); (case hr => exact xq4); intro w12 hw; have hg : wr.grownBy w12 (some go10) := (by rw [hw]; exact HP11.2); have hp_ : Kd.R (Kd.int .u8) 5 w12 w.heap.size (fun _ => True) (.slice (some ⟨go10, 0, none⟩) x5_1.length co10) y313 := (by rw [hw, Ny313.out]; exact HP11.1); clear HP11; replace HO_5 := ak hp_; replace HB := ak ((by rw [hw]; exact below_set (HB.out) GB10.out : Below w.heap.size w w12)); clear hg hw hp_))
   go_roundg k1
   case measure => have := HK1.out; omega
   case rel => exact ⟨(x0_1 / 256), (y313), (wrap64 (x6_1 - 1)), eqA, eqA, H', ⟨xq6⟩, ⟨rA HO_5⟩, ⟨belA⟩⟩

def impl_checkSum.l0 : Nat → Int → Int → List Int → Int → Int → Option (Int)
 | 0, _, _, _, _, _ => none
 | k + 1, x3, x4, x7, x8, x9 => if x9 < x8 then (if 0 ≤ x9 then (if x9 < (x7.length : Int) then (impl_checkSum.l0 k (Int.tmod (wrap64 (x3 + (wrap64 (rd x7 x9)))) 65521) (Int.tmod (wrap64 (x4 + (Int.tmod (wrap64 (x3 + (wrap64 (rd x7 x9)))) 65521))) 65521) x7 x8 (wrap64 (x9 + 1))) else (none)) else (none)) else (some (wrap64 ((wrap64 (65536 * x4)) + x3)))
def impl_checkSum.f (k : Nat) (l0 : List Int) : Option (Int) := impl_checkSum.l0 k 1 0 l0 (l0.length : Int) 0
theorem impl_checkSum.mono_l : ∀ k, (∀ y0 y1 y2 y3 y4, LeO (impl_checkSum.l0 k y0 y1 y2 y3 y4) (impl_checkSum.l0 (k + 1) y0 y1 y2 y3 y4))
 | 0 => fun _ _ _ _ _ r h => by simp [impl_checkSum.l0] at h
 | k + 1 => by
  have ih0 := impl_checkSum.mono_l k
  · intro y0 y1 y2 y3 y4; unfold impl_checkSum.l0; exact xq44
theorem impl_checkSum.mono : ∀ a0 k, LeO (impl_checkSum.f k a0) (impl_checkSum.f (k + 1) a0) := by
 intro a0 k; have ih0 := impl_checkSum.mono_l k
 unfold impl_checkSum.f
 exact xq44
theorem impl_checkSum.calls (k : Nat) (A0 : Option Addr) (c0 : Nat) (l0 : List Int) (r : Int) (w : World) (hr0 : Kd.C (Kd.int .u8) w A0 l0.length l0) (hc0 : l0.length ≤ c0) (h : impl_checkSum.f k l0 = some r) :
 Calls Try.prog 139 #[.slice A0 l0.length c0] w fun e w' => e = .returned (.int .i64 r) ∧ Drawn0 w w' := by
 have HR0 := ak hr0; have HC0 := ak hc0; clear hr0 hc0; have H : (impl_checkSum.l0 k 1 0 l0 (l0.length : Int) 0) = some r := h; clear h; have H' := ak H; clear H; go_enter Try.func139, Try.ntmps139
 go_wp2
 go_loopg [3, 4, 9] k (fun kq v3 v4 v9 w' => ∃ (x3_1 : Int) (x4_1 : Int) (x9_1 : Int), v3 = .int .i64 x3_1 ∧ v4 = .int .i64 x4_1 ∧ v9 = .int .i64 x9_1 ∧ Aside0 (impl_checkSum.l0 kq x3_1 x4_1 l0 (l0.length : Int) x9_1 = some r) ∧ Aside0 (kq ≤ k) ∧ Drawn0 w w')
 case atStart => exact ⟨(1), (0), (0), eqA, eqA, eqA, H', ⟨Nat.le_refl _⟩, xq2⟩
 case round =>
  clear H'; obtain ⟨x3_1, x4_1, x9_1, rfl, rfl, rfl, HA, HK1, ⟨m1, rfl⟩⟩ := hrel
  cases gk with
  | zero => exact absurd HA.out (by simp [impl_checkSum.l0])
  | succ k1 =>
   have H := HA.out; clear HA; simp only [impl_checkSum.l0] at H
   by_cases c2 : x9_1 < (l0.length : Int); rotate_left
   · rw [if_neg c2] at H; have c2b0 := decide_eq_false c2; clear c2; obtain rfl := Option.some.inj H; go_wp2
     go_ret
     exact ⟨xq3, xq2⟩
   rw [if_pos c2] at H; have c2b0 := decide_eq_true c2; clear c2
   by_cases c3 : 0 ≤ x9_1; rotate_left
   · rw [if_neg c3] at H; exact absurd H (by simp)
   rw [if_pos c3] at H; have c3b0 := decide_eq_true c3; clear c3
   by_cases c4 : x9_1 < (l0.length : Int); rotate_left
   · rw [if_neg c4] at H; exact absurd H (by simp)
   rw [if_pos c4] at H; have c4b0 := decide_eq_true c4; clear c4; have H' := ak H; clear H; have p314 : 0 ≤ (x9_1 : Int) := odA; have q314 : x9_1 < (l0.length : Int) := odA; obtain ⟨ad314, e314, hx314_0⟩ := Kd.at_int HR0.out x9_1 p314 q314
   cases e314
   replace p314 := eq_true p314; replace q314 := eq_true q314; go_wp2
   go_roundg k1
   case measure => have := HK1.out; omega
   case rel => exact ⟨(Int.tmod (wrap64 (x3_1 + (wrap64 (rd l0 x9_1)))) 65521), (Int.tmod (wrap64 (x4_1 + (Int.tmod (wrap64 (x3_1 + (wrap64 (rd l0 x9_1)))) 65521))) 65521), (wrap64 (x9_1 + 1)), eqA, eqA, eqA, H', ⟨xq6⟩, xq2⟩

end Go.Proofs.Ytbojabmpcfclhaa.PFnExactPackJobs

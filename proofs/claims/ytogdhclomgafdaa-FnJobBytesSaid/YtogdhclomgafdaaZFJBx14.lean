-- Written by a program of this session (the print of the kit with contracts of this session's own added)
import Derived.Test.YtogdhclomgafdaaZFJBx13
set_option maxHeartbeats 8000000
set_option maxRecDepth 100000
namespace Go.Proofs.Ytogdhclomgafdaa.PFnJobBytes
open Go.RowKit Go.Proofs.YtogdhclomgafdaaW.PrintWords Go.Proofs.YtogdhclomgafdaaW.PrintLast Go.Proofs.YtogdhclomgafdaaW.PrintMore Go.Proofs.YtogdhclomgafdaaW.PrintPack Go.Proofs.YtogdhclomgafdaaW.PrintPack
set_option linter.unusedVariables false
set_option linter.unusedSimpArgs false

mutual
def impl_encodeJob.l0 : Nat → List Int → List (List Int) → Int → Int → Option (List Int)
 | 0, _, _, _, _ => none
 | k + 1, x3, x23, x24, x25 => if x25 < x24 then (if 0 ≤ x25 then (if x25 < (x23.length : Int) then ((impl_putNumber.f k ((rd_L2 x23 x25).length : Int)).bind fun t622 => (if x3.length + t622.length < 140737488355328 then (impl_encodeJob.l1 k (x3 ++ t622) x23 x24 x25 (rd_L2 x23 x25) ((rd_L2 x23 x25).length : Int) 0) else (none))) else (none)) else (none)) else (some x3)
def impl_encodeJob.l1 : Nat → List Int → List (List Int) → Int → Int → List Int → Int → Int → Option (List Int)
 | 0, _, _, _, _, _, _, _ => none
 | k + 1, x3, x23, x24, x25, x34, x35, x36 => if x36 < x35 then (if 0 ≤ x36 then (if x36 < (x34.length : Int) then ((impl_putNumber.f k (rd x34 x36)).bind fun t629 => (if x3.length + t629.length < 140737488355328 then (impl_encodeJob.l1 k (x3 ++ t629) x23 x24 x25 x34 x35 (wrap64 (x36 + 1))) else (none))) else (none)) else (none)) else (impl_encodeJob.l0 k x3 x23 x24 (wrap64 (x25 + 1)))
end
def impl_encodeJob.f (k : Nat) (a0_0 : Int) (a0_1 : Int) (l0_2 : List Int) (l0_3 : List Int) (a0_4 : Int) : Option (List Int) := (some (([(a0_0) % 256, (a0_1) % 256] : List Int) : List Int)).bind fun y609 => ((impl_putNumber.f k a0_4).bind fun t612 => (if y609.length + t612.length < 140737488355328 then ((some (([l0_2, l0_3] : List (List Int)) : List (List Int))).bind fun y618 => (impl_encodeJob.l0 k (y609 ++ t612) y618 (y618.length : Int) 0)) else (none)))
theorem impl_encodeJob.mono_l : ∀ k, (∀ y0 y1 y2 y3, LeO (impl_encodeJob.l0 k y0 y1 y2 y3) (impl_encodeJob.l0 (k + 1) y0 y1 y2 y3)) ∧ (∀ y0 y1 y2 y3 y4 y5 y6, LeO (impl_encodeJob.l1 k y0 y1 y2 y3 y4 y5 y6) (impl_encodeJob.l1 (k + 1) y0 y1 y2 y3 y4 y5 y6))
 | 0 => ⟨fun _ _ _ _ r h => by simp [impl_encodeJob.l0] at h, fun _ _ _ _ _ _ _ r h => by simp [impl_encodeJob.l1] at h⟩
 | k + 1 => by
  obtain ⟨ih0, ih1⟩ := impl_encodeJob.mono_l k; refine ⟨?_, ?_⟩
  · intro y0 y1 y2 y3; unfold impl_encodeJob.l0; exact xq58
  · intro y0 y1 y2 y3 y4 y5 y6; unfold impl_encodeJob.l1; exact xq58
theorem impl_encodeJob.mono : ∀ a0 a1 a2 a3 a4 k, LeO (impl_encodeJob.f k a0 a1 a2 a3 a4) (impl_encodeJob.f (k + 1) a0 a1 a2 a3 a4) := by
 intro a0 a1 a2 a3 a4 k; obtain ⟨ih0, ih1⟩ := impl_encodeJob.mono_l k
 unfold impl_encodeJob.f
 exact xq58
def impl_encodeJob.T1 : Bool × List (List Nat × List Nat) := (true, [([], []), ([0], [0]), ([1], [1]), ([], []), ([3], [3]), ([4], [4]), ([2, 5], [2, 5]), ([], []), ([7], [7]), ([8], [8]), ([6, 9, 9], [6, 9]), ([10, 10, 0, 1, 2, 3, 4, 5, 6, 7, 8, 9, 10], [10])])
def impl_encodeJob.B1 : List Nat := [0, 1, 3, 0, 8, 24, 63, 0, 128, 384, 1023, 2047]
theorem impl_encodeJob.tab1 : rtab .any (opsOf Try.f87 1) = impl_encodeJob.T1 := by kernel_rfl
theorem impl_encodeJob.bits1 : waitsOk impl_encodeJob.T1.2 impl_encodeJob.B1 = true := by kernel_rfl
theorem impl_encodeJob.calls (k : Nat) (a0_0 : Int) (a0_1 : Int) (P0_2_ : Nat → Prop) (A0_2 : Option Addr) (c0_2 : Nat) (l0_2 : List Int) (P0_3_ : Nat → Prop) (A0_3 : Option Addr) (c0_3 : Nat) (l0_3 : List Int) (a0_4 : Int) (r : List Int) (w : World) (hs0_2 : Kd.V (Kd.int .i64) 3 w w.heap.size (fun k_ => P0_2_ k_) (.slice A0_2 l0_2.length c0_2) l0_2) (hs0_3 : Kd.V (Kd.int .i64) 3 w w.heap.size (fun k_ => P0_3_ k_) (.slice A0_3 l0_3.length c0_3) l0_3) (h : impl_encodeJob.f k a0_0 a0_1 l0_2 l0_3 a0_4 = some r) :
 Calls Try.prog 87 #[.agg #[.int .i64 a0_0, .int .i64 a0_1, .slice A0_2 l0_2.length c0_2, .slice A0_3 l0_3.length c0_3, .int .i64 a0_4]] w fun e w' => ∃ v0_ : Value, e = .returned (v0_) ∧ Kd.R (Kd.int .u8) 5 w' w.heap.size (fun k_ => (w.heap.size ≤ k_)) v0_ r ∧ Below w.heap.size w w' := by
 have hu49 := Try.underlying49; have HO0_2 := ak (show Kd.V (Kd.int .i64) 3 w w.heap.size (fun k_ => ((P0_2_ k_ ∨ P0_3_ k_) ∨ w.heap.size ≤ k_)) (.slice A0_2 l0_2.length c0_2) l0_2 from Kd.V_mono hs0_2 (fun k_ hk => .inl (.inl hk))); have HO0_3 := ak (show Kd.V (Kd.int .i64) 3 w w.heap.size (fun k_ => ((P0_2_ k_ ∨ P0_3_ k_) ∨ w.heap.size ≤ k_)) (.slice A0_3 l0_3.length c0_3) l0_3 from Kd.V_mono hs0_3 (fun k_ hk => .inl (.inr hk))); have HB := ak (Below.refl w.heap.size w); have H : ((some (([(a0_0) % 256, (a0_1) % 256] : List Int) : List Int)).bind fun y609 => ((impl_putNumber.f k a0_4).bind fun t612 => (if y609.length + t612.length < 140737488355328 then ((some (([l0_2, l0_3] : List (List Int)) : List (List Int))).bind fun y618 => (impl_encodeJob.l0 k (y609 ++ t612) y618 (y618.length : Int) 0)) else (none)))) = some r := h; clear h; obtain ⟨y609, hyq⟩ : ∃ y_ : List Int, y_ = (([(a0_0) % 256, (a0_1) % 256] : List Int)) := ⟨_, rfl⟩; replace H : ((impl_putNumber.f k a0_4).bind fun t612 => (if y609.length + t612.length < 140737488355328 then ((some (([l0_2, l0_3] : List (List Int)) : List (List Int))).bind fun y618 => (impl_encodeJob.l0 k (y609 ++ t612) y618 (y618.length : Int) 0)) else (none))) = some r := by first | (rw [hyq]; with_reducible exact H) | (have H2_ := (Option.bind_some _ _).symm.trans H; rw [hyq]; with_reducible exact H2_) | (have H2_ := (Option.bind_some _ _).symm.trans H; with_reducible exact H2_) | with_reducible exact H | (rw [hyq]; exact H) | exact H
 have Ny609 := ak hyq; clear hyq; replace H := Option.bind_eq_some_iff.mp H; obtain ⟨t612, A20, H⟩ := H; (try dsimp only at H); have A2 := ak A20; clear A20
 by_cases c3 : y609.length + t612.length < 140737488355328; rotate_left
 · rw [if_neg c3] at H; exact absurd H (by simp)
 rw [if_pos c3] at H; have LMc3 := ak c3; clear c3; obtain ⟨y615, hyq⟩ : ∃ y_ : List Int, y_ = (y609 ++ t612) := ⟨_, rfl⟩; replace H : ((some (([l0_2, l0_3] : List (List Int)) : List (List Int))).bind fun y618 => (impl_encodeJob.l0 k y615 y618 (y618.length : Int) 0)) = some r := by first | (rw [hyq]; with_reducible exact H) | (have H2_ := (Option.bind_some _ _).symm.trans H; rw [hyq]; with_reducible exact H2_) | (have H2_ := (Option.bind_some _ _).symm.trans H; with_reducible exact H2_) | with_reducible exact H | (rw [hyq]; exact H) | exact H
 have Ny615 := ak hyq; clear hyq; obtain ⟨y618, hyq⟩ : ∃ y_ : List (List Int), y_ = (([l0_2, l0_3] : List (List Int))) := ⟨_, rfl⟩; replace H : (impl_encodeJob.l0 k y615 y618 (y618.length : Int) 0) = some r := by first | (rw [hyq]; with_reducible exact H) | (have H2_ := (Option.bind_some _ _).symm.trans H; rw [hyq]; with_reducible exact H2_) | (have H2_ := (Option.bind_some _ _).symm.trans H; with_reducible exact H2_) | with_reducible exact H | (rw [hyq]; exact H) | exact H
 have Ny618 := ak hyq; clear hyq; have H' := ak H; clear H; go_enter Try.func87, Try.ntmps87
 try go_wp2_with (first | ((with_reducible refine gate_dst (N := 1) rfl ?_); refine boxA 1 #[.int .i64 a0_0, .int .i64 a0_1, .slice A0_2 l0_2.length c0_2, .slice A0_3 l0_3.length c0_3, .int .i64 a0_4] 49 ?_; intro gb608 hg w4 hbox hb; have BK608 := ak hbox; have GW608 := leA (w := w) hg; have GE608 := leA (w := w) hg; replace HO0_2 := vC HO0_2 hg hb; replace HO0_3 := vC HO0_3 hg hb; replace HB := bS hb; clear hb hbox hg))
 replace HO0_2 := ak (Kd.V_drew HO0_2.out); replace HO0_3 := ak (Kd.V_drew HO0_3.out); replace BK608 := ak (blk_drew BK608.out); replace HB := ak (below_drew1 HB.out); refine start_ (n := 12) (S := fun w' => w'.cell? ⟨gb608, 0, none⟩ = some (.int .i64 a0_0) ∧ w'.cell? ⟨gb608, 1, none⟩ = some (.int .i64 a0_1) ∧ w'.cell? ⟨gb608, 2, none⟩ = some (.slice A0_2 l0_2.length c0_2) ∧ w'.cell? ⟨gb608, 3, none⟩ = some (.slice A0_3 l0_3.length c0_3) ∧ w'.cell? ⟨gb608, 4, none⟩ = some (.int .i64 a0_4)) (ds := []) #[false, false, false, false, false, false, false, false, false, false, false, false] (by kernel_rfl) rfl rfl ⟨(blk_cell BK608.out 0).trans rfl, (blk_cell BK608.out 1).trans rfl, (blk_cell BK608.out 2).trans rfl, (blk_cell BK608.out 3).trans rfl, (blk_cell BK608.out 4).trans rfl⟩ (fun hHeld => ?_); refine with_tabW impl_encodeJob.tab1 impl_encodeJob.bits1 (fun HT_ HW_ => ?_)
 generalize w4.drew = w5 at HO0_2 HO0_3 BK608 HB hHeld ⊢
 refine pure_ (i := 0) (N := some 8) (v := ?_) (a' := ?_) #[true, false, false, false, false, false, false, false, false, false, false, false] rfl rfl (any_of HT_.out (by kernel_rfl)) (fun _ _ _ h => h) (Or.inl ⟨by rfl, ?_⟩) ?_ ?_
 rotate_left
 · intro w'; go_simp
   with_reducible rfl
 rotate_left
 · simp only [Act.put, sa, sb, sc, i64_w, i32_w]
   rfl
 refine pure_ (i := 3) (N := some 11) (v := ?_) (a' := ?_) #[true, false, false, true, false, false, false, false, false, false, false, false] rfl rfl (any_of HT_.out (by kernel_rfl)) (fun _ _ _ h => h) (Or.inl ⟨by rfl, ?_⟩) ?_ ?_
 rotate_left
 · intro w'; go_simp
   with_reducible rfl
 rotate_left
 · simp only [Act.put, sa, sb, sc, i64_w, i32_w]
   rfl
 refine pure_ (i := 7) (N := some 15) (v := ?_) (a' := ?_) #[true, false, false, true, false, false, false, true, false, false, false, false] rfl rfl (any_of HT_.out (by kernel_rfl)) (fun _ _ _ h => h) (Or.inl ⟨by rfl, ?_⟩) ?_ ?_
 rotate_left
 · intro w'; go_simp
   with_reducible rfl
 rotate_left
 · simp only [Act.put, sa, sb, sc, i64_w, i32_w]
   rfl
 refine take_ (i := 1) (N := some 9) (v := ?_) (a' := ?_) #[true, true, false, true, false, false, false, true, false, false, false, false] rfl rfl (take_ofW HT_.out HW_.out (by kernel_rfl)) (fun _ _ _ h => h) (Or.inl ⟨by rfl, ?_⟩) hHeld ?_ ?_
 rotate_left
 · rintro w' ⟨s0, s1, s2, s3, s4⟩
   go_simp
   with_reducible rfl
 rotate_left
 · simp only [Act.put, sa, sb, sc, i64_w, i32_w]
   rfl
 refine pure_ (i := 2) (N := some 10) (v := ?_) (a' := ?_) #[true, true, true, true, false, false, false, true, false, false, false, false] rfl rfl (any_of HT_.out (by kernel_rfl)) (fun _ _ _ h => h) (Or.inl ⟨by rfl, ?_⟩) ?_ ?_
 rotate_left
 · intro w'; go_simp
   with_reducible rfl
 rotate_left
 · simp only [Act.put, sa, sb, sc, i64_w, i32_w]
   rfl
 refine take_ (i := 4) (N := some 12) (v := ?_) (a' := ?_) #[true, true, true, true, true, false, false, true, false, false, false, false] rfl rfl (take_ofW HT_.out HW_.out (by kernel_rfl)) (fun _ _ _ h => h) (Or.inl ⟨by rfl, ?_⟩) hHeld ?_ ?_
 rotate_left
 · rintro w' ⟨s0, s1, s2, s3, s4⟩
   go_simp
   with_reducible rfl
 rotate_left
 · simp only [Act.put, sa, sb, sc, i64_w, i32_w]
   rfl
 refine pure_ (i := 5) (N := some 13) (v := ?_) (a' := ?_) #[true, true, true, true, true, true, false, true, false, false, false, false] rfl rfl (any_of HT_.out (by kernel_rfl)) (fun _ _ _ h => h) (Or.inl ⟨by rfl, ?_⟩) ?_ ?_
 rotate_left
 · intro w'; go_simp
   with_reducible rfl
 rotate_left
 · simp only [Act.put, sa, sb, sc, i64_w, i32_w]
   rfl
 refine take_ (i := 8) (N := some 16) (v := ?_) (a' := ?_) #[true, true, true, true, true, true, false, true, true, false, false, false] rfl rfl (take_ofW HT_.out HW_.out (by kernel_rfl)) (fun _ _ _ h => h) (Or.inl ⟨by rfl, ?_⟩) hHeld ?_ ?_
 rotate_left
 · rintro w' ⟨s0, s1, s2, s3, s4⟩
   go_simp
   with_reducible rfl
 rotate_left
 · simp only [Act.put, sa, sb, sc, i64_w, i32_w]
   rfl
 refine join_ (σ := Value × Value) 2 #[true, true, true, true, true, true, true, true, true, true, false, false] (fun s_ => [(14, s_.1), (17, s_.2)]) (fun s_ w' => (w'.cell? ⟨gb608, 0, none⟩ = some (.int .i64 a0_0) ∧ w'.cell? ⟨gb608, 1, none⟩ = some (.int .i64 a0_1) ∧ w'.cell? ⟨gb608, 2, none⟩ = some (.slice A0_2 l0_2.length c0_2) ∧ w'.cell? ⟨gb608, 3, none⟩ = some (.slice A0_3 l0_3.length c0_3) ∧ w'.cell? ⟨gb608, 4, none⟩ = some (.int .i64 a0_4)) ∧ (Kd.V (Kd.int .i64) 3 w' w.heap.size (fun k_ => ((P0_2_ k_ ∨ P0_3_ k_) ∨ w.heap.size ≤ k_) ∧ some k_ ≠ (s_.1 : Value).ownBlock ∧ some k_ ≠ (s_.2 : Value).ownBlock ∧ k_ ≠ gb608) (.slice A0_2 l0_2.length c0_2) l0_2) ∧ (Kd.V (Kd.int .i64) 3 w' w.heap.size (fun k_ => ((P0_2_ k_ ∨ P0_3_ k_) ∨ w.heap.size ≤ k_) ∧ some k_ ≠ (s_.1 : Value).ownBlock ∧ some k_ ≠ (s_.2 : Value).ownBlock ∧ k_ ≠ gb608) (.slice A0_3 l0_3.length c0_3) l0_3) ∧ (Kd.R (Kd.int .u8) 5 w' w.heap.size (fun k_ => (w.heap.size ≤ k_) ∧ some k_ ≠ (s_.2 : Value).ownBlock) s_.1 y609) ∧ (Kd.R (Kd.int .u8) 5 w' w.heap.size (fun k_ => (w.heap.size ≤ k_) ∧ some k_ ≠ (s_.1 : Value).ownBlock) s_.2 t612) ∧ (w'.heap[gb608]? = some (.cells #[.int .i64 a0_0, .int .i64 a0_1, .slice A0_2 l0_2.length c0_2, .slice A0_3 l0_3.length c0_3, .int .i64 a0_4] 49 (0, 0))) ∧ (Below w.heap.size w w')) ?_ ?_
 rotate_left
 · intro hCont; refine two_ (i := 6) (j := 9) (Ni := some 14) (Nj := some 17) #[true, true, true, true, true, true, true, true, true, false, false, false] #[true, true, true, true, true, true, false, true, true, true, false, false] rfl rfl rfl rfl (two_of HT_.out (by kernel_rfl)) (by decide) (by decide) (fun K hK => ?_) (fun K hK => ?_)
   · skip
     refine Kd.R_lit_step (Kd.int .u8) _ 5 ?hg (N := 14) ?hd (xs := ([(a0_0) % 256, (a0_1) % 256] : List Int)) (inner := [.int .u8 ((a0_0) % 256), .int .u8 ((a0_1) % 256)]) (ok := fun _ => True) (okp := fun _ => True) ?hr ?hp (fun _ hk => hk) trivial (Below.refl _ _) (Nat.le_refl _) (by simp) ?_; (case hd => rfl); (case hg => rfl); (case hr => exact xq11); (case hp => exact xq59)
     intro v610 w6 ho7 hb hg_ hnew_; clear hg_ hnew_; (first | rw [← Ny609.out] at ho7 | (simp only [Int.reduceToNat] at ho7; rw [← Ny609.out] at ho7))
     have HO611 := rL (Kd.R_newM (M := fun k_ => (w.heap.size ≤ k_)) ho7 (below_size belA) (fun k_ h_ => h_)); replace HO0_2 := vD HO0_2 (Kd.R_base ho7) hb; replace HO0_3 := vD HO0_3 (Kd.R_base ho7) hb; replace BK608 := bB BK608 hb; replace HB := bS hb; clear hb ho7; refine hK.out _ _ ⟨(blk_cell BK608.out 0).trans rfl, (blk_cell BK608.out 1).trans rfl, (blk_cell BK608.out 2).trans rfl, (blk_cell BK608.out 3).trans rfl, (blk_cell BK608.out 4).trans rfl⟩ (fun hHeld => ?_)
     clear hK K; refine norm_ (a' := ?_) ?_ ?_
     rotate_left
     · show Act.put _ (some 14) _ = _
       simp only [Act.put, sa, sb, sc, i64_w, i32_w]
       rfl
     refine one_ (i := 9) (N := some 17) #[true, true, true, true, true, true, true, true, true, true, false, false] rfl rfl (one_of HT_.out (by kernel_rfl)) (by decide) (fun K hK => ?_)
     refine goes_ Try.func115 (by kernel_rfl) rfl #[.int .i64 a0_4] (by rfl) rfl rfl xq29 ?_
     with_reducible refine (impl_putNumber.calls k a0_4 t612 _ A2.out).mono ?_
     rintro e w8 ⟨v613, rfl, ho0, hb⟩
     refine ⟨_, rfl, ?_⟩
     have HO614 := rL (Kd.R_new' (Kd.R_newM (M := fun k_ => (w.heap.size ≤ k_)) ho0 (below_size belA) (fun k_ h_ => h_)) (Kd.R_lt (rF HO611))); replace HO0_2 := vD HO0_2 (Kd.R_base ho0) hb; replace HO0_3 := vD HO0_3 (Kd.R_base ho0) hb; replace HO611 := ak (Kd.R_elder' (rF HO611) (Kd.R_base ho0) hb); replace BK608 := bB BK608 hb; replace HB := bS hb; (try clear hb ho0); refine hK.out _ _ ⟨(blk_cell BK608.out 0).trans rfl, (blk_cell BK608.out 1).trans rfl, (blk_cell BK608.out 2).trans rfl, (blk_cell BK608.out 3).trans rfl, (blk_cell BK608.out 4).trans rfl⟩ (fun hHeld => ?_)
     clear hK K; refine norm_ (a' := ?_) ?_ ?_
     rotate_left
     · show Act.put _ (some 17) _ = _
       simp only [Act.put, sa, sb, sc, i64_w, i32_w]
       rfl
     exact norm_ (by simp only [putAll, Act.put, sa, sb, sc]) (hCont (v610, v613) _ ⟨hHeld, (vE (Kd.V_mono HO0_2.out (fun _ hk => ⟨hk.1.1.1, ⟨hk.1.2, ⟨hk.2, hk.1.1.2⟩⟩⟩))), (vE (Kd.V_mono HO0_3.out (fun _ hk => ⟨hk.1.1.1, ⟨hk.1.2, ⟨hk.2, hk.1.1.2⟩⟩⟩))), xq81, xq82, blkA, belA⟩)
   · skip
     refine goes_ Try.func115 (by kernel_rfl) rfl #[.int .i64 a0_4] (by rfl) rfl rfl xq29 ?_
     with_reducible refine (impl_putNumber.calls k a0_4 t612 _ A2.out).mono ?_
     rintro e w6 ⟨v613, rfl, ho0, hb⟩
     refine ⟨_, rfl, ?_⟩
     have HO614 := rL (Kd.R_newM (M := fun k_ => (w.heap.size ≤ k_)) ho0 (below_size belA) (fun k_ h_ => h_)); replace HO0_2 := vD HO0_2 (Kd.R_base ho0) hb; replace HO0_3 := vD HO0_3 (Kd.R_base ho0) hb; replace BK608 := bB BK608 hb; replace HB := bS hb; (try clear hb ho0); refine hK.out _ _ ⟨(blk_cell BK608.out 0).trans rfl, (blk_cell BK608.out 1).trans rfl, (blk_cell BK608.out 2).trans rfl, (blk_cell BK608.out 3).trans rfl, (blk_cell BK608.out 4).trans rfl⟩ (fun hHeld => ?_)
     clear hK K; refine norm_ (a' := ?_) ?_ ?_
     rotate_left
     · show Act.put _ (some 17) _ = _
       simp only [Act.put, sa, sb, sc, i64_w, i32_w]
       rfl
     refine one_ (i := 6) (N := some 14) #[true, true, true, true, true, true, true, true, true, true, false, false] rfl rfl (one_of HT_.out (by kernel_rfl)) (by decide) (fun K hK => ?_)
     refine Kd.R_lit_step (Kd.int .u8) _ 5 ?hg (N := 14) ?hd (xs := ([(a0_0) % 256, (a0_1) % 256] : List Int)) (inner := [.int .u8 ((a0_0) % 256), .int .u8 ((a0_1) % 256)]) (ok := fun _ => True) (okp := fun _ => True) ?hr ?hp (fun _ hk => hk) trivial (Below.refl _ _) (Nat.le_refl _) (by simp) ?_; (case hd => rfl); (case hg => rfl); (case hr => exact xq11); (case hp => exact xq59)
     intro v610 w7 ho8 hb hg_ hnew_; clear hg_ hnew_; (first | rw [← Ny609.out] at ho8 | (simp only [Int.reduceToNat] at ho8; rw [← Ny609.out] at ho8))
     have HO611 := rL (Kd.R_new' (Kd.R_newM (M := fun k_ => (w.heap.size ≤ k_)) ho8 (below_size belA) (fun k_ h_ => h_)) (Kd.R_lt (rF HO614))); replace HO0_2 := vD HO0_2 (Kd.R_base ho8) hb; replace HO0_3 := vD HO0_3 (Kd.R_base ho8) hb; replace HO614 := ak (Kd.R_elder' (rF HO614) (Kd.R_base ho8) hb); replace BK608 := bB BK608 hb; replace HB := bS hb; clear hb ho8; refine hK.out _ _ ⟨(blk_cell BK608.out 0).trans rfl, (blk_cell BK608.out 1).trans rfl, (blk_cell BK608.out 2).trans rfl, (blk_cell BK608.out 3).trans rfl, (blk_cell BK608.out 4).trans rfl⟩ (fun hHeld => ?_)
     clear hK K; refine norm_ (a' := ?_) ?_ ?_
     rotate_left
     · show Act.put _ (some 14) _ = _
       simp only [Act.put, sa, sb, sc, i64_w, i32_w]
       rfl
     exact norm_ (by simp only [putAll, Act.put, sa, sb, sc]) (hCont (v610, v613) _ ⟨hHeld, (vE (Kd.V_mono HO0_2.out (fun _ hk => ⟨hk.1.1.1, ⟨hk.2, ⟨hk.1.2, hk.1.1.2⟩⟩⟩))), (vE (Kd.V_mono HO0_3.out (fun _ hk => ⟨hk.1.1.1, ⟨hk.2, ⟨hk.1.2, hk.1.1.2⟩⟩⟩))), xq81, xq82, blkA, belA⟩)
 rintro ⟨v610, v613⟩ w9 ⟨hS_, h0_, h1_, h2_, h3_, h4_, h5_⟩
 have n0_ : Aside0 (Kd.V (Kd.int .i64) 3 w9 w.heap.size (fun k_ => ((P0_2_ k_ ∨ P0_3_ k_) ∨ w.heap.size ≤ k_) ∧ some k_ ≠ (v610 : Value).ownBlock ∧ some k_ ≠ (v613 : Value).ownBlock ∧ k_ ≠ gb608) (.slice A0_2 l0_2.length c0_2) l0_2) := ⟨h0_⟩; have n1_ : Aside0 (Kd.V (Kd.int .i64) 3 w9 w.heap.size (fun k_ => ((P0_2_ k_ ∨ P0_3_ k_) ∨ w.heap.size ≤ k_) ∧ some k_ ≠ (v610 : Value).ownBlock ∧ some k_ ≠ (v613 : Value).ownBlock ∧ k_ ≠ gb608) (.slice A0_3 l0_3.length c0_3) l0_3) := ⟨h1_⟩; have n2_ : Aside0 (Kd.R (Kd.int .u8) 5 w9 w.heap.size (fun k_ => (w.heap.size ≤ k_) ∧ some k_ ≠ (v613 : Value).ownBlock) v610 y609) := ⟨h2_⟩; have n3_ : Aside0 (Kd.R (Kd.int .u8) 5 w9 w.heap.size (fun k_ => (w.heap.size ≤ k_) ∧ some k_ ≠ (v610 : Value).ownBlock) v613 t612) := ⟨h3_⟩; have n4_ : Aside0 (w9.heap[gb608]? = some (.cells #[.int .i64 a0_0, .int .i64 a0_1, .slice A0_2 l0_2.length c0_2, .slice A0_3 l0_3.length c0_3, .int .i64 a0_4] 49 (0, 0))) := ⟨h4_⟩; have n5_ : Aside0 (Below w.heap.size w w9) := ⟨h5_⟩; clear HO0_2; clear HO0_3; clear BK608; clear HB; clear h0_ h1_ h2_ h3_ h4_ h5_; have HO0_2 := n0_; have HO0_3 := n1_; have HO611 := n2_; have HO614 := n3_; have BK608 := n4_; have HB := n5_; clear n0_ n1_ n2_ n3_ n4_ n5_; have hHeld : w9.cell? ⟨gb608, 0, none⟩ = some (.int .i64 a0_0) ∧ w9.cell? ⟨gb608, 1, none⟩ = some (.int .i64 a0_1) ∧ w9.cell? ⟨gb608, 2, none⟩ = some (.slice A0_2 l0_2.length c0_2) ∧ w9.cell? ⟨gb608, 3, none⟩ = some (.slice A0_3 l0_3.length c0_3) ∧ w9.cell? ⟨gb608, 4, none⟩ = some (.int .i64 a0_4) := hS_; obtain ⟨Ao11, co11, eo11⟩ := Kd.R_slice HO614.out; (first | subst eo11 | (injection eo11 with f1_ f2_ f3_; have f4_ := f1_.symm; have f5_ := f3_.symm; clear f1_ f2_ f3_; subst f4_; subst f5_))
 refine norm_ (a' := ?_) ?_ ?_
 rotate_left
 · simp only [putAll, Act.put, sa, sb, sc]
   rfl
 refine one_ (i := 10) (N := some 18) #[true, true, true, true, true, true, true, true, true, true, true, false] rfl rfl (one_of HT_.out (by kernel_rfl)) (by decide) (fun K hK => ?_)
 refine Kd.R_append_rows_step (Kd.int .u8) (w0 := w) w.heap.size (by rfl) (.tmp 14) (.tmp 17) 22 5 (.int .u8 0) 1 rfl Try.underlying22 info5 rfl (by decide) (by omega) v610 y609 t612 _ _ _ (fun k_ => (w.heap.size ≤ k_) ∧ some k_ ≠ (.slice Ao11 t612.length co11 : Value).ownBlock) (fun _ => False) rfl rfl ?aO ?aR (fun _ _ h => h) (fun _ h => h.elim) ?aF ?aB ?aS ?aL ?_
 (case aR => repeat (first | exact (Kd.R_reads' HO614.out).2.2 | (with_reducible refine Kd.C_alloc ?_ _) | (with_reducible refine Kd.C_drewN ?_ _) | (with_reducible refine Kd.C_drew ?_)))
 (case aB => exact belA)
 (case aF => exact (fun k_ hk => ⟨(Nat.le_trans (below_size belA) hk), Kd.fresh' (Kd.R_lt (rF HO614)) k_ hk⟩))
 (case aO => exact (rF HO611))
 (case aS => exact (below_size belA))
 (case aL => have := LMc3.out; omega)
 intro v616 w10 ho hb hg hat; rw [← Ny615.out] at ho; have HO617 := ak ho; replace HO0_2 := ak (Kd.V_afterv (ok := (fun k_ => ((P0_2_ k_ ∨ P0_3_ k_) ∨ w.heap.size ≤ k_) ∧ some k_ ≠ (.slice Ao11 t612.length co11 : Value).ownBlock ∧ k_ ≠ gb608)) (vE (Kd.V_mono HO0_2.out (fun _ hk => ⟨⟨hk.1, ⟨hk.2.2.1, hk.2.2.2⟩⟩, hk.2.1⟩))) hg hat); replace HO0_3 := ak (Kd.V_afterv (ok := (fun k_ => ((P0_2_ k_ ∨ P0_3_ k_) ∨ w.heap.size ≤ k_) ∧ some k_ ≠ (.slice Ao11 t612.length co11 : Value).ownBlock ∧ k_ ≠ gb608)) (vE (Kd.V_mono HO0_3.out (fun _ hk => ⟨⟨hk.1, ⟨hk.2.2.1, hk.2.2.2⟩⟩, hk.2.1⟩))) hg hat); replace BK608 := ak (blk_grown (g := gb608) (o := .cells #[.int .i64 a0_0, .int .i64 a0_1, .slice A0_2 l0_2.length c0_2, .slice A0_3 l0_3.length c0_3, .int .i64 a0_4] 49 (0, 0)) blkA hg (Kd.R_ne HO611.out BK608.out (by decide))); replace HO614 := ak (Kd.R_after (ok := (fun k_ => (w.heap.size ≤ k_))) (rF HO614) hg hat); replace HB := ak hb; clear HO611; clear ho hb hg hat; refine hK.out _ _ ⟨(blk_cell BK608.out 0).trans rfl, (blk_cell BK608.out 1).trans rfl, (blk_cell BK608.out 2).trans rfl, (blk_cell BK608.out 3).trans rfl, (blk_cell BK608.out 4).trans rfl⟩ (fun hHeld => ?_)
 clear hK K; refine norm_ (a' := ?_) ?_ ?_
 rotate_left
 · show Act.put _ (some 18) _ = _
   simp only [Act.put, sa, sb, sc, i64_w, i32_w]
   rfl
 refine pure_ (i := 11) (N := some 3) (v := ?_) (a' := ?_) #[true, true, true, true, true, true, true, true, true, true, true, true] rfl rfl (any_of HT_.out (by kernel_rfl)) (fun _ _ _ h => h) (Or.inl ⟨by rfl, ?_⟩) ?_ ?_
 rotate_left
 · intro w'; go_simp
   with_reducible rfl
 rotate_left
 · simp only [Act.put, sa, sb, sc, i64_w, i32_w]
   rfl
 refine done_ (done_of HT_.out (by kernel_rfl)) ?_
 obtain ⟨_, _, _, _, _, _, _, _, _, _⟩ := cel5 BK608; try go_wp2_with (first | ((with_reducible refine gate_dst (N := 23) rfl ?_); refine Kd.N_lit (Kd.slice 3 (Kd.int .i64)) _ 33 ?hg (N' := 23) ?hd (xs := ([l0_2, l0_3] : List (List Int))) (inner := [.slice A0_2 l0_2.length c0_2, .slice A0_3 l0_3.length c0_3]) (ok := (fun k_ => ((P0_2_ k_ ∨ P0_3_ k_) ∨ w.heap.size ≤ k_) ∧ some k_ ≠ (.slice Ao11 t612.length co11 : Value).ownBlock ∧ some k_ ≠ (v616 : Value).ownBlock ∧ k_ ≠ gb608)) (okp := (fun k_ => ((P0_2_ k_ ∨ P0_3_ k_) ∨ w.heap.size ≤ k_) ∧ some k_ ≠ (.slice Ao11 t612.length co11 : Value).ownBlock ∧ some k_ ≠ (v616 : Value).ownBlock ∧ k_ ≠ gb608)) ?hr ?hp (fun _ hk => hk) ((show ∀ k_, w10.heap.size ≤ k_ → (fun k_ => ((P0_2_ k_ ∨ P0_3_ k_) ∨ w.heap.size ≤ k_) ∧ some k_ ≠ (.slice Ao11 t612.length co11 : Value).ownBlock ∧ some k_ ≠ (v616 : Value).ownBlock ∧ k_ ≠ gb608) k_ from fun k_ hk => ⟨(.inr (Nat.le_trans (below_size belA) hk)), Kd.fresh' (Kd.R_lt (rF HO614)) k_ hk, Kd.fresh' (Kd.R_lt (rF HO617)) k_ hk, Kd.freshB (g := gb608) (o := .cells #[.int .i64 a0_0, .int .i64 a0_1, .slice A0_2 l0_2.length c0_2, .slice A0_3 l0_3.length c0_3, .int .i64 a0_4] 49 (0, 0)) blkA k_ hk⟩) _ (Nat.le_refl _)) (Below.refl _ _) (Nat.le_refl _) (by simp) ?_; (case hd => rfl); (case hg => rfl); (case hr => exact xq11); (case hp => exact (Reps.one (show Kd.FK (Kd.slice 3 (Kd.int .i64)) _ _ l0_2 [.slice A0_2 l0_2.length c0_2] from (Kd.FK_slice_mk (Kd.V_reads' (Kd.V_mono (ok' := (fun k_ => ((P0_2_ k_ ∨ P0_3_ k_) ∨ w.heap.size ≤ k_) ∧ some k_ ≠ (.slice Ao11 t612.length co11 : Value).ownBlock ∧ some k_ ≠ (v616 : Value).ownBlock ∧ k_ ≠ gb608)) (HO0_2.out) (fun k_ hk => ⟨hk.1.1, ⟨hk.1.2.1, ⟨hk.2, hk.1.2.2⟩⟩⟩))).2.1 (Kd.V_F (Kd.V_mono (ok' := (fun k_ => ((P0_2_ k_ ∨ P0_3_ k_) ∨ w.heap.size ≤ k_) ∧ some k_ ≠ (.slice Ao11 t612.length co11 : Value).ownBlock ∧ some k_ ≠ (v616 : Value).ownBlock ∧ k_ ≠ gb608)) (HO0_2.out) (fun k_ hk => ⟨hk.1.1, ⟨hk.1.2.1, ⟨hk.2, hk.1.2.2⟩⟩⟩))))) (Reps.one (show Kd.FK (Kd.slice 3 (Kd.int .i64)) _ _ l0_3 [.slice A0_3 l0_3.length c0_3] from (Kd.FK_slice_mk (Kd.V_reads' (Kd.V_mono (ok' := (fun k_ => ((P0_2_ k_ ∨ P0_3_ k_) ∨ w.heap.size ≤ k_) ∧ some k_ ≠ (.slice Ao11 t612.length co11 : Value).ownBlock ∧ some k_ ≠ (v616 : Value).ownBlock ∧ k_ ≠ gb608)) (HO0_3.out) (fun k_ hk => ⟨hk.1.1, ⟨hk.1.2.1, ⟨hk.2, hk.1.2.2⟩⟩⟩))).2.1 (Kd.V_F (Kd.V_mono (ok' := (fun k_ => ((P0_2_ k_ ∨ P0_3_ k_) ∨ w.heap.size ≤ k_) ∧ some k_ ≠ (.slice Ao11 t612.length co11 : Value).ownBlock ∧ some k_ ≠ (v616 : Value).ownBlock ∧ k_ ≠ gb608)) (HO0_3.out) (fun k_ hk => ⟨hk.1.1, ⟨hk.1.2.1, ⟨hk.2, hk.1.2.2⟩⟩⟩))))) (Reps.none _ _)))); intro v619 w13 ho14 hb hg_ hnew_; clear hg_ hnew_; (first | rw [← Ny618.out] at ho14 | (simp only [Int.reduceToNat] at ho14; rw [← Ny618.out] at ho14)); have HO620 := nL ho14; replace HO0_2 := vD HO0_2 (Kd.N_base ho14) hb; replace HO0_3 := vD HO0_3 (Kd.N_base ho14) hb; replace HO614 := ak (Kd.R_below (rF HO614) hb); replace HO617 := ak (Kd.R_below (rF HO617) hb); replace BK608 := bB BK608 hb; replace HB := bS hb; clear hb ho14; obtain ⟨Ao15, co15, eo15⟩ := Kd.N_slice HO620.out; subst eo15))
 go_loopg [3, 25] k (fun kq v3 v25 w' => ∃ (x3_1 : List Int) (x25_1 : Int), v25 = .int .i64 x25_1 ∧ Aside0 (impl_encodeJob.l0 kq x3_1 y618 (y618.length : Int) x25_1 = some r) ∧ Aside0 (kq ≤ k) ∧ Aside0 (Kd.R (Kd.int .u8) 5 w' w.heap.size (fun k_ => (w.heap.size ≤ k_)) v3 x3_1) ∧ Aside0 (Kd.N (Kd.slice 3 (Kd.int .i64)) 33 w' w.heap.size (fun k_ => ((P0_2_ k_ ∨ P0_3_ k_) ∨ w.heap.size ≤ k_) ∧ some k_ ≠ (v3 : Value).ownBlock ∧ k_ ≠ gb608) (.slice Ao15 y618.length co15) y618) ∧ Aside0 (Kd.V (Kd.int .i64) 3 w' w.heap.size (fun k_ => ((P0_2_ k_ ∨ P0_3_ k_) ∨ w.heap.size ≤ k_) ∧ some k_ ≠ (v3 : Value).ownBlock ∧ some k_ ≠ ((.slice Ao15 y618.length co15) : Value).ownBlock ∧ k_ ≠ gb608) (.slice A0_2 l0_2.length c0_2) l0_2) ∧ Aside0 (Kd.V (Kd.int .i64) 3 w' w.heap.size (fun k_ => ((P0_2_ k_ ∨ P0_3_ k_) ∨ w.heap.size ≤ k_) ∧ some k_ ≠ (v3 : Value).ownBlock ∧ some k_ ≠ ((.slice Ao15 y618.length co15) : Value).ownBlock ∧ k_ ≠ gb608) (.slice A0_3 l0_3.length c0_3) l0_3) ∧ Aside0 (w'.heap[gb608]? = some (.cells #[.int .i64 a0_0, .int .i64 a0_1, (.slice A0_2 l0_2.length c0_2), (.slice A0_3 l0_3.length c0_3), .int .i64 a0_4] 49 (0, 0))) ∧ Aside0 (Below w.heap.size w w'))
 case atStart => exact ⟨(y615), (0), eqA, H', ⟨Nat.le_refl _⟩, ⟨rE (Kd.R_mono HO617.out (fun _ hk => hk.1))⟩, ⟨nE (Kd.N_mono HO620.out (fun _ hk => ⟨hk.1, ⟨hk.2.2.1, hk.2.2.2⟩⟩))⟩, ⟨vE (Kd.V_mono HO0_2.out (fun _ hk => ⟨hk.1.1.1, ⟨hk.1.2, ⟨hk.2, hk.1.1.2.2⟩⟩⟩))⟩, ⟨vE (Kd.V_mono HO0_3.out (fun _ hk => ⟨hk.1.1.1, ⟨hk.1.2, ⟨hk.2, hk.1.1.2.2⟩⟩⟩))⟩, ⟨blkA⟩, ⟨belA⟩⟩
 case round =>
  clear H'; obtain ⟨x3_1, x25_1, rfl, HA, HK1, HO_3, HO_23, HO_609002, HO_609003, BK608, HB⟩ := hrel
  cases gk with
  | zero => exact absurd HA.out (by simp [impl_encodeJob.l0])
  | succ k1 =>
   have H := HA.out; clear HA; simp only [impl_encodeJob.l0] at H
   by_cases c16 : x25_1 < (y618.length : Int); rotate_left
   · rw [if_neg c16] at H; have c16b0 := decide_eq_false c16; clear c16; obtain rfl := Option.some.inj H; go_wp2
     go_ret
     exact ⟨_, xq6, xq51, belA⟩
   rw [if_pos c16] at H; have c16b0 := decide_eq_true c16; clear c16
   by_cases c17 : 0 ≤ x25_1; rotate_left
   · rw [if_neg c17] at H; exact absurd H (by simp)
   rw [if_pos c17] at H; have c17b0 := decide_eq_true c17; clear c17
   by_cases c18 : x25_1 < (y618.length : Int); rotate_left
   · rw [if_neg c18] at H; exact absurd H (by simp)
   rw [if_pos c18] at H; have c18b0 := decide_eq_true c18; clear c18; replace H := Option.bind_eq_some_iff.mp H; obtain ⟨t622, A190, H⟩ := H; (try dsimp only at H); have A19 := ak A190; clear A190
   by_cases c20 : x3_1.length + t622.length < 140737488355328; rotate_left
   · rw [if_neg c20] at H; exact absurd H (by simp)
   rw [if_pos c20] at H; have LMc20 := ak c20; clear c20; obtain ⟨y625, hyq⟩ : ∃ y_ : List Int, y_ = (x3_1 ++ t622) := ⟨_, rfl⟩; replace H : (impl_encodeJob.l1 k1 y625 y618 (y618.length : Int) x25_1 (rd_L2 y618 x25_1) ((rd_L2 y618 x25_1).length : Int) 0) = some r := by first | (rw [hyq]; with_reducible exact H) | (have H2_ := (Option.bind_some _ _).symm.trans H; rw [hyq]; with_reducible exact H2_) | (have H2_ := (Option.bind_some _ _).symm.trans H; with_reducible exact H2_) | with_reducible exact H | (rw [hyq]; exact H) | exact H
   have Ny625 := ak hyq; clear hyq; have H' := ak H; clear H; have p621 : 0 ≤ (x25_1 : Int) := odA; have q621 : x25_1 < (y618.length : Int) := odA; obtain ⟨ad621, A621_0, c621_0, e621, hx621_0, hl621_0, hi621_0⟩ := at_L2 (Kd.N_reads' HO_23.out).2.2 x25_1 p621 q621
   cases e621
   obtain ⟨ce621, hce621, hMe621, hcc621⟩ := Kd.N_get HO_23.out [] x25_1 p621 (by first | exact q621 | exact odA | (have e_ := (Kd.N_reads' HO_23.out).1; omega)); obtain ⟨ua621_0, uc621_0, rfl, ul621_0, ge621_0⟩ := Kd.FK_slice_open hMe621; have hv621_0 := hcc621 0 _ rfl; rw [Nat.add_zero, show ((Kd.slice 3 (Kd.int .i64))).sz = 1 from rfl, Nat.mul_one] at hv621_0; replace hv621_0 := Option.some.inj (hv621_0.symm.trans hx621_0); injection hv621_0 with hva_ hvn_ hvc_
   rw [hva_] at ge621_0; rw [hvc_] at ul621_0; have HL621_0 := ak (show Kd.V (Kd.int .i64) 3 _ w.heap.size _ _ (rd_L2 y618 x25_1) from Kd.V_mk ul621_0 ge621_0); clear hva_ hvn_ hvc_ ge621_0 ul621_0; clear hcc621 hce621; have HR621_0 := ak hi621_0; have HC621_0 := ak hl621_0; clear hi621_0 hl621_0; replace p621 := eq_true p621; replace q621 := eq_true q621; go_wp2_with (first | ((with_reducible refine gate_callee (f := 115) rfl ?_); refine goB 32 Try.func115 #[.int .i64 ((rd_L2 y618 x25_1).length : Int)] rfl ?_; (with_reducible refine (impl_putNumber.calls k1 ((rd_L2 y618 x25_1).length : Int) t622 _ A19.out).mono ?_); rintro e w21 ⟨v623, rfl, ho0, hb⟩; refine ⟨_, rfl, ?_⟩; have HO624 := rL (Kd.R_new' (Kd.R_newM (M := fun k_ => (w.heap.size ≤ k_)) ho0 (below_size belA) (fun k_ h_ => h_)) (Kd.R_lt (rF HO_3))); replace HO_3 := ak (Kd.R_elder' (rF HO_3) (Kd.R_base ho0) hb); replace HO_23 := nD HO_23 (Kd.R_base ho0) hb; replace HO_609002 := vD HO_609002 (Kd.R_base ho0) hb; replace HO_609003 := vD HO_609003 (Kd.R_base ho0) hb; replace HL621_0 := vD HL621_0 (Kd.R_base ho0) hb; replace BK608 := bB BK608 hb; replace HR621_0 := ak (Kd.C_below (by repeat (first | (with_reducible exact HR621_0.out) | (with_reducible refine Kd.C_alloc ?_ _) | (with_reducible refine Kd.C_drewN ?_ _) | (with_reducible refine Kd.C_drew ?_) | exact HR621_0.out)) hb); replace HB := bS hb; (try clear hb ho0); obtain ⟨Ao23, co23, eo23⟩ := Kd.R_slice HO624.out; subst eo23) | ((with_reducible refine gate_builtin (b := .append) (xs := #[.tmp 29, .tmp 32]) rfl ?_); at_builtin; refine Kd.R_append_rows (Kd.int .u8) (w0 := w) w.heap.size rfl (.tmp 29) (.tmp 32) 22 5 (.int .u8 0) 1 rfl Try.underlying22 info5 rfl (by decide) (by omega) u3 x3_1 t622 _ _ _ (fun k_ => (w.heap.size ≤ k_) ∧ some k_ ≠ (.slice Ao23 t622.length co23 : Value).ownBlock) (fun _ => False) rfl rfl ?aO ?aR (fun _ _ h => h) (fun _ h => h.elim) ?aF ?aB ?aS ?aL ?_; (case aR => repeat (first | exact (Kd.R_reads' HO624.out).2.2 | (with_reducible refine Kd.C_alloc ?_ _) | (with_reducible refine Kd.C_drewN ?_ _) | (with_reducible refine Kd.C_drew ?_))); (case aB => exact belA); (case aF => exact (fun k_ hk => ⟨(Nat.le_trans (below_size belA) hk), Kd.fresh' (Kd.R_lt (rF HO624)) k_ hk⟩)); (case aO => exact (rF HO_3)); (case aS => exact (below_size belA)); (case aL => have := LMc20.out; omega); intro v626 w22 ho hb hg hat; rw [← Ny625.out] at ho; have HO627 := ak ho; replace HO_23 := ak (Kd.N_afterv (ok := (fun k_ => ((P0_2_ k_ ∨ P0_3_ k_) ∨ w.heap.size ≤ k_) ∧ some k_ ≠ (.slice Ao23 t622.length co23 : Value).ownBlock ∧ k_ ≠ gb608)) (nE (Kd.N_mono HO_23.out (fun _ hk => ⟨⟨hk.1.1, ⟨hk.2, hk.1.2.2⟩⟩, hk.1.2.1⟩))) hg hat); replace HO_609002 := ak (Kd.V_afterv (ok := (fun k_ => ((P0_2_ k_ ∨ P0_3_ k_) ∨ w.heap.size ≤ k_) ∧ some k_ ≠ (.slice (some ad621) y618.length co15 : Value).ownBlock ∧ some k_ ≠ (.slice Ao23 t622.length co23 : Value).ownBlock ∧ k_ ≠ gb608)) (vE (Kd.V_mono HO_609002.out (fun _ hk => ⟨⟨hk.1.1, ⟨hk.1.2.2.1, ⟨hk.2, hk.1.2.2.2⟩⟩⟩, hk.1.2.1⟩))) hg hat); replace HO_609003 := ak (Kd.V_afterv (ok := (fun k_ => ((P0_2_ k_ ∨ P0_3_ k_) ∨ w.heap.size ≤ k_) ∧ some k_ ≠ (.slice (some ad621) y618.length co15 : Value).ownBlock ∧ some k_ ≠ (.slice Ao23 t622.length co23 : Value).ownBlock ∧ k_ ≠ gb608)) (vE (Kd.V_mono HO_609003.out (fun _ hk => ⟨⟨hk.1.1, ⟨hk.1.2.2.1, ⟨hk.2, hk.1.2.2.2⟩⟩⟩, hk.1.2.1⟩))) hg hat); replace BK608 := ak (blk_grown (g := gb608) (o := .cells #[.int .i64 a0_0, .int .i64 a0_1, .slice A0_2 l0_2.length c0_2, .slice A0_3 l0_3.length c0_3, .int .i64 a0_4] 49 (0, 0)) blkA hg (Kd.R_ne HO_3.out BK608.out (by decide))); replace HL621_0 := ak (Kd.V_afterv (ok := (fun k_ => ((P0_2_ k_ ∨ P0_3_ k_) ∨ w.heap.size ≤ k_) ∧ some k_ ≠ (.slice (some ad621) y618.length co15 : Value).ownBlock ∧ some k_ ≠ (.slice Ao23 t622.length co23 : Value).ownBlock ∧ k_ ≠ gb608)) (vE (Kd.V_mono HL621_0.out (fun _ hk => ⟨⟨hk.1.1.1, ⟨hk.1.2, ⟨hk.2, hk.1.1.2.2⟩⟩⟩, hk.1.1.2.1⟩))) hg hat); replace HO624 := ak (Kd.R_after (ok := (fun k_ => (w.heap.size ≤ k_))) (by (with_reducible repeat (first | apply Kd.R_alloc | apply Kd.R_drewN | apply Kd.R_drew)); first | exact Kd.R_mono HO624.out (fun _ hk => ⟨hk.1.1, hk.2⟩) | exact Kd.R_mono HO624.out (fun _ _ => trivial)) hg hat); replace HB := ak hb; clear HO_3; clear ho hb hg hat))
   go_loopg [3, 36] k1 (fun kq v3 v36 w' => ∃ (x3_2 : List Int) (x36_2 : Int), v36 = .int .i64 x36_2 ∧ Aside0 (impl_encodeJob.l1 kq x3_2 y618 (y618.length : Int) x25_1 (rd_L2 y618 x25_1) ((rd_L2 y618 x25_1).length : Int) x36_2 = some r) ∧ Aside0 (kq ≤ k1) ∧ Aside0 (Kd.R (Kd.int .u8) 5 w' w.heap.size (fun k_ => (w.heap.size ≤ k_)) v3 x3_2) ∧ Aside0 (Kd.N (Kd.slice 3 (Kd.int .i64)) 33 w' w.heap.size (fun k_ => ((P0_2_ k_ ∨ P0_3_ k_) ∨ w.heap.size ≤ k_) ∧ some k_ ≠ (v3 : Value).ownBlock ∧ k_ ≠ gb608) (.slice (some ad621) y618.length co15) y618) ∧ Aside0 (Kd.V (Kd.int .i64) 3 w' w.heap.size (fun k_ => ((P0_2_ k_ ∨ P0_3_ k_) ∨ w.heap.size ≤ k_) ∧ some k_ ≠ (v3 : Value).ownBlock ∧ some k_ ≠ ((.slice (some ad621) y618.length co15) : Value).ownBlock ∧ k_ ≠ gb608) (.slice A0_2 l0_2.length c0_2) l0_2) ∧ Aside0 (Kd.V (Kd.int .i64) 3 w' w.heap.size (fun k_ => ((P0_2_ k_ ∨ P0_3_ k_) ∨ w.heap.size ≤ k_) ∧ some k_ ≠ (v3 : Value).ownBlock ∧ some k_ ≠ ((.slice (some ad621) y618.length co15) : Value).ownBlock ∧ k_ ≠ gb608) (.slice A0_3 l0_3.length c0_3) l0_3) ∧ Aside0 (Kd.V (Kd.int .i64) 3 w' w.heap.size (fun k_ => ((P0_2_ k_ ∨ P0_3_ k_) ∨ w.heap.size ≤ k_) ∧ some k_ ≠ (v3 : Value).ownBlock ∧ some k_ ≠ ((.slice (some ad621) y618.length co15) : Value).ownBlock ∧ k_ ≠ gb608) (.slice A621_0 (rd_L2 y618 x25_1).length c621_0) (rd_L2 y618 x25_1)) ∧ Aside0 (w'.heap[gb608]? = some (.cells #[.int .i64 a0_0, .int .i64 a0_1, (.slice A0_2 l0_2.length c0_2), (.slice A0_3 l0_3.length c0_3), .int .i64 a0_4] 49 (0, 0))) ∧ Aside0 (Below w.heap.size w w'))
   case atStart => exact ⟨(y625), (0), eqA, H', ⟨Nat.le_refl _⟩, ⟨rE (Kd.R_mono HO627.out (fun _ hk => hk.1))⟩, ⟨nE (Kd.N_mono HO_23.out (fun _ hk => ⟨hk.1.1, ⟨hk.2, hk.1.2.2⟩⟩))⟩, ⟨vE (Kd.V_mono HO_609002.out (fun _ hk => ⟨hk.1.1, ⟨hk.2, ⟨hk.1.2.1, hk.1.2.2.2⟩⟩⟩))⟩, ⟨vE (Kd.V_mono HO_609003.out (fun _ hk => ⟨hk.1.1, ⟨hk.2, ⟨hk.1.2.1, hk.1.2.2.2⟩⟩⟩))⟩, ⟨vE (Kd.V_mono HL621_0.out (fun _ hk => ⟨hk.1.1, ⟨hk.2, ⟨hk.1.2.1, hk.1.2.2.2⟩⟩⟩))⟩, ⟨blkA⟩, ⟨belA⟩⟩
   case round =>
    clear H'; obtain ⟨x3_2, x36_2, rfl, HA, HK2, HO_3, HO_23, HO_609002, HO_609003, HM621, BK608, HB⟩ := hrel
    cases gk with
    | zero => exact absurd HA.out (by simp [impl_encodeJob.l1])
    | succ k2 =>
     have H := HA.out; clear HA; simp only [impl_encodeJob.l1] at H
     by_cases c24 : x36_2 < ((rd_L2 y618 x25_1).length : Int); rotate_left
     · rw [if_neg c24] at H; have c24b0 := decide_eq_false c24; clear c24; have H' := ak H; clear H; go_wp2
       go_roundg k2
       case measure => have := HK1.out; have := HK2.out; omega
       case rel => exact ⟨(x3_2), (wrap64 (x25_1 + 1)), eqA, H', ⟨xq52⟩, ⟨rA HO_3⟩, ⟨nA HO_23⟩, ⟨vA HO_609002⟩, ⟨vA HO_609003⟩, ⟨blkA⟩, ⟨belA⟩⟩
     rw [if_pos c24] at H; have c24b0 := decide_eq_true c24; clear c24
     by_cases c25 : 0 ≤ x36_2; rotate_left
     · rw [if_neg c25] at H; exact absurd H (by simp)
     rw [if_pos c25] at H; have c25b0 := decide_eq_true c25; clear c25
     by_cases c26 : x36_2 < ((rd_L2 y618 x25_1).length : Int); rotate_left
     · rw [if_neg c26] at H; exact absurd H (by simp)
     rw [if_pos c26] at H; have c26b0 := decide_eq_true c26; clear c26; replace H := Option.bind_eq_some_iff.mp H; obtain ⟨t629, A270, H⟩ := H; (try dsimp only at H); have A27 := ak A270; clear A270
     by_cases c28 : x3_2.length + t629.length < 140737488355328; rotate_left
     · rw [if_neg c28] at H; exact absurd H (by simp)
     rw [if_pos c28] at H; have LMc28 := ak c28; clear c28; obtain ⟨y632, hyq⟩ : ∃ y_ : List Int, y_ = (x3_2 ++ t629) := ⟨_, rfl⟩; replace H : (impl_encodeJob.l1 k2 y632 y618 (y618.length : Int) x25_1 (rd_L2 y618 x25_1) ((rd_L2 y618 x25_1).length : Int) (wrap64 (x36_2 + 1))) = some r := by first | (rw [hyq]; with_reducible exact H) | (have H2_ := (Option.bind_some _ _).symm.trans H; rw [hyq]; with_reducible exact H2_) | (have H2_ := (Option.bind_some _ _).symm.trans H; with_reducible exact H2_) | with_reducible exact H | (rw [hyq]; exact H) | exact H
     have Ny632 := ak hyq; clear hyq; have H' := ak H; clear H; have p628 : 0 ≤ (x36_2 : Int) := odA; have q628 : x36_2 < ((rd_L2 y618 x25_1).length : Int) := odA; obtain ⟨ad628, e628, hx628_0⟩ := Kd.at_int (Kd.V_reads' HM621.out).2.2 x36_2 p628 q628
     cases e628
     try replace hx628_0 := cB HB hx628_0
     replace p628 := eq_true p628; replace q628 := eq_true q628; go_wp2_with (first | ((with_reducible refine gate_callee (f := 115) rfl ?_); refine goB 42 Try.func115 #[.int .i64 (rd (rd_L2 y618 x25_1) x36_2)] rfl ?_; (with_reducible refine (impl_putNumber.calls k2 (rd (rd_L2 y618 x25_1) x36_2) t629 _ A27.out).mono ?_); rintro e w29 ⟨v630, rfl, ho0, hb⟩; refine ⟨_, rfl, ?_⟩; have n0_ := ak (Kd.R_elder' (rF HO_3) (Kd.R_base ho0) hb); have n1_ := nD HO_23 (Kd.R_base ho0) hb; have n2_ := vD HO_609002 (Kd.R_base ho0) hb; have n3_ := vD HO_609003 (Kd.R_base ho0) hb; have m0_ := vD HM621 (Kd.R_base ho0) hb; have n4_ := rL (Kd.R_new' (Kd.R_newM (M := fun k_ => (w.heap.size ≤ k_)) ho0 (below_size belA) (fun k_ h_ => h_)) (Kd.R_lt (rF HO_3))); have n5_ := bB BK608 hb; have n6_ := bS hb; clear HO_3; clear HO_23; clear HO_609002; clear HO_609003; clear HM621; clear BK608; clear HB; have HO_3 := n0_; have HO_23 := n1_; have HO_609002 := n2_; have HO_609003 := n3_; have HM621 := m0_; clear m0_; have HO631 := n4_; have BK608 := n5_; have HB := n6_; clear n0_ n1_ n2_ n3_ n4_ n5_ n6_; (try clear hb ho0); obtain ⟨Ao31, co31, eo31⟩ := Kd.R_slice HO631.out; subst eo31) | ((with_reducible refine gate_builtin (b := .append) (xs := #[.tmp 40, .tmp 42]) rfl ?_); at_builtin; refine Kd.R_append_rows (Kd.int .u8) (w0 := w) w.heap.size rfl (.tmp 40) (.tmp 42) 22 5 (.int .u8 0) 1 rfl Try.underlying22 info5 rfl (by decide) (by omega) u3 x3_2 t629 _ _ _ (fun k_ => (w.heap.size ≤ k_) ∧ some k_ ≠ (.slice Ao31 t629.length co31 : Value).ownBlock) (fun _ => False) rfl rfl ?aO ?aR (fun _ _ h => h) (fun _ h => h.elim) ?aF ?aB ?aS ?aL ?_; (case aR => repeat (first | exact (Kd.R_reads' HO631.out).2.2 | (with_reducible refine Kd.C_alloc ?_ _) | (with_reducible refine Kd.C_drewN ?_ _) | (with_reducible refine Kd.C_drew ?_))); (case aB => exact belA); (case aF => exact (fun k_ hk => ⟨(Nat.le_trans (below_size belA) hk), Kd.fresh' (Kd.R_lt (rF HO631)) k_ hk⟩)); (case aO => exact (rF HO_3)); (case aS => exact (below_size belA)); (case aL => have := LMc28.out; omega); intro v633 w30 ho hb hg hat; rw [← Ny632.out] at ho; have n0_ := ak (Kd.N_afterv (ok := (fun k_ => ((P0_2_ k_ ∨ P0_3_ k_) ∨ w.heap.size ≤ k_) ∧ some k_ ≠ (.slice Ao31 t629.length co31 : Value).ownBlock ∧ k_ ≠ gb608)) (nE (Kd.N_mono HO_23.out (fun _ hk => ⟨⟨hk.1.1, ⟨hk.2, hk.1.2.2⟩⟩, hk.1.2.1⟩))) hg hat); have n1_ := ak (Kd.V_afterv (ok := (fun k_ => ((P0_2_ k_ ∨ P0_3_ k_) ∨ w.heap.size ≤ k_) ∧ some k_ ≠ (.slice (some ad621) y618.length co15 : Value).ownBlock ∧ some k_ ≠ (.slice Ao31 t629.length co31 : Value).ownBlock ∧ k_ ≠ gb608)) (vE (Kd.V_mono HO_609002.out (fun _ hk => ⟨⟨hk.1.1, ⟨hk.1.2.2.1, ⟨hk.2, hk.1.2.2.2⟩⟩⟩, hk.1.2.1⟩))) hg hat); have n2_ := ak (Kd.V_afterv (ok := (fun k_ => ((P0_2_ k_ ∨ P0_3_ k_) ∨ w.heap.size ≤ k_) ∧ some k_ ≠ (.slice (some ad621) y618.length co15 : Value).ownBlock ∧ some k_ ≠ (.slice Ao31 t629.length co31 : Value).ownBlock ∧ k_ ≠ gb608)) (vE (Kd.V_mono HO_609003.out (fun _ hk => ⟨⟨hk.1.1, ⟨hk.1.2.2.1, ⟨hk.2, hk.1.2.2.2⟩⟩⟩, hk.1.2.1⟩))) hg hat); have m0_ := ak (Kd.V_afterv (ok := (fun k_ => ((P0_2_ k_ ∨ P0_3_ k_) ∨ w.heap.size ≤ k_) ∧ some k_ ≠ (.slice (some ad621) y618.length co15 : Value).ownBlock ∧ some k_ ≠ (.slice Ao31 t629.length co31 : Value).ownBlock ∧ k_ ≠ gb608)) (vE (Kd.V_mono HM621.out (fun _ hk => ⟨⟨hk.1.1, ⟨hk.1.2.2.1, ⟨hk.2, hk.1.2.2.2⟩⟩⟩, hk.1.2.1⟩))) hg hat); have n3_ := ak (blk_grown (g := gb608) (o := .cells #[.int .i64 a0_0, .int .i64 a0_1, .slice A0_2 l0_2.length c0_2, .slice A0_3 l0_3.length c0_3, .int .i64 a0_4] 49 (0, 0)) blkA hg (Kd.R_ne HO_3.out BK608.out (by decide))); have n4_ := ak (Kd.R_after (ok := (fun k_ => (w.heap.size ≤ k_))) (by (with_reducible repeat (first | apply Kd.R_alloc | apply Kd.R_drewN | apply Kd.R_drew)); first | exact Kd.R_mono HO631.out (fun _ hk => ⟨hk.1.1, hk.2⟩) | exact Kd.R_mono HO631.out (fun _ _ => trivial)) hg hat); have n5_ := ak hb; have n6_ := ak ho; clear HO_23; clear HO_609002; clear HO_609003; clear HM621; clear BK608; clear HO631; clear HB; clear HO_3; have HO_23 := n0_; have HO_609002 := n1_; have HO_609003 := n2_; have BK608 := n3_; have HM621 := m0_; clear m0_; have HO631 := n4_; have HB := n5_; have HO634 := n6_; clear n0_ n1_ n2_ n3_ n4_ n5_ n6_; clear ho hb hg hat))
     go_roundg k2
     case measure => have := HK1.out; have := HK2.out; omega
     case rel => exact ⟨(y632), (wrap64 (x36_2 + 1)), eqA, H', ⟨xq52⟩, ⟨rE (Kd.R_mono HO634.out (fun _ hk => hk.1))⟩, ⟨nE (Kd.N_mono HO_23.out (fun _ hk => ⟨hk.1.1, ⟨hk.2, hk.1.2.2⟩⟩))⟩, ⟨vE (Kd.V_mono HO_609002.out (fun _ hk => ⟨hk.1.1, ⟨hk.2, ⟨hk.1.2.1, hk.1.2.2.2⟩⟩⟩))⟩, ⟨vE (Kd.V_mono HO_609003.out (fun _ hk => ⟨hk.1.1, ⟨hk.2, ⟨hk.1.2.1, hk.1.2.2.2⟩⟩⟩))⟩, ⟨vE (Kd.V_mono HM621.out (fun _ hk => ⟨hk.1.1, ⟨hk.2, ⟨hk.1.2.1, hk.1.2.2.2⟩⟩⟩))⟩, ⟨blkA⟩, ⟨belA⟩⟩

def impl_EncodeJob.f (k : Nat) (a0_0 : Int) (a0_1 : Int) (l0_2 : List Int) (l0_3 : List Int) (a0_4 : Int) : Option (List Int) := (impl_isJob.f k a0_0 a0_1 l0_2 l0_3 a0_4).bind fun t636 => (if t636 = true then ((impl_encodeJob.f k a0_0 a0_1 l0_2 l0_3 a0_4).bind fun t637 => (some t637)) else (some ([] : List Int)))
theorem impl_EncodeJob.mono : ∀ a0 a1 a2 a3 a4 k, LeO (impl_EncodeJob.f k a0 a1 a2 a3 a4) (impl_EncodeJob.f (k + 1) a0 a1 a2 a3 a4) := by
 intro a0 a1 a2 a3 a4 k
 unfold impl_EncodeJob.f
 exact (by repeat' (with_reducible first | exact impl_encodeJob.mono _ _ _ _ _ _ | exact impl_isJob.mono _ _ _ _ _ _ | exact LeO.refl _ | exact LeO.none _ | refine LeO.ite ?_ ?_ | refine LeO.bind ?_ (fun _ => ?_)))
theorem impl_EncodeJob.calls (k : Nat) (a0_0 : Int) (a0_1 : Int) (A0_2 : Option Addr) (c0_2 : Nat) (l0_2 : List Int) (A0_3 : Option Addr) (c0_3 : Nat) (l0_3 : List Int) (a0_4 : Int) (r : List Int) (w : World) (hr0_2 : Kd.C (Kd.int .i64) w A0_2 l0_2.length l0_2) (hc0_2 : l0_2.length ≤ c0_2) (hr0_3 : Kd.C (Kd.int .i64) w A0_3 l0_3.length l0_3) (hc0_3 : l0_3.length ≤ c0_3) (h : impl_EncodeJob.f k a0_0 a0_1 l0_2 l0_3 a0_4 = some r) :
 Calls Try.prog 47 #[.agg #[.int .i64 a0_0, .int .i64 a0_1, .slice A0_2 l0_2.length c0_2, .slice A0_3 l0_3.length c0_3, .int .i64 a0_4]] w fun e w' => ∃ v0_ : Value, e = .returned (v0_) ∧ Kd.R (Kd.int .u8) 5 w' w.heap.size (fun _ => True) v0_ r ∧ Below w.heap.size w w' := by
 have hu49 := Try.underlying49; have HR0_2 := ak hr0_2; have HC0_2 := ak hc0_2; clear hr0_2 hc0_2; have HR0_3 := ak hr0_3; have HC0_3 := ak hc0_3; clear hr0_3 hc0_3; have HB := ak (Below.refl w.heap.size w); have H : ((impl_isJob.f k a0_0 a0_1 l0_2 l0_3 a0_4).bind fun t636 => (if t636 = true then ((impl_encodeJob.f k a0_0 a0_1 l0_2 l0_3 a0_4).bind fun t637 => (some t637)) else (some ([] : List Int)))) = some r := h; clear h; replace H := Option.bind_eq_some_iff.mp H; obtain ⟨t636, A20, H⟩ := H; (try dsimp only at H); have A2 := ak A20; clear A20
 by_cases c3 : t636 = true; rotate_left
 · replace c3 := Bool.eq_false_iff.mpr c3; subst c3; have H1 : (some ([] : List Int)) = some r := by rw [if_neg (show ¬ (false = true) by decide)] at H; exact H
   clear H; have H := H1; clear H1; obtain rfl := Option.some.inj H; go_enter Try.func47, Try.ntmps47
   go_wp2_with (first | ((with_reducible refine gate_dst (N := 1) rfl ?_); refine boxA 1 #[.int .i64 a0_0, .int .i64 a0_1, .slice A0_2 l0_2.length c0_2, .slice A0_3 l0_3.length c0_3, .int .i64 a0_4] 49 ?_; intro gb635 hg w10 hbox hb; have BK635 := ak hbox; have GW635 := leA (w := w) hg; have GE635 := leA (w := w) hg; replace HB := bS hb; clear hb hbox hg; obtain ⟨_, _, _, _, _, _, _, _, _, _⟩ := cel5 BK635) | ((with_reducible refine gate_callee (f := 86) rfl ?_); refine goB 4 Try.func86 #[.agg #[.int .i64 a0_0, .int .i64 a0_1, .slice A0_2 l0_2.length c0_2, .slice A0_3 l0_3.length c0_3, .int .i64 a0_4]] rfl ?_; (with_reducible refine (impl_isJob.calls k a0_0 a0_1 _ _ l0_2 _ _ l0_3 a0_4 false _ ?side1 ?side2 ?side3 ?side4 A2.out).mono ?_); (case side1 => exact cA (Kd.C_below HR0_2.out HB.out)); (case side2 => exact HC0_2.out); (case side3 => exact cA (Kd.C_below HR0_3.out HB.out)); (case side4 => exact HC0_3.out); rintro e w12 ⟨rfl, hb⟩; refine ⟨_, rfl, ?_⟩; replace BK635 := bB BK635 hb; replace HB := bS hb; (try clear hb)))
   go_ret
   exact ⟨_, xq6, xq16, belA⟩
 subst c3; have H1 : ((impl_encodeJob.f k a0_0 a0_1 l0_2 l0_3 a0_4).bind fun t637 => (some t637)) = some r := by rw [if_pos rfl] at H; exact H
 clear H; have H := H1; clear H1; replace H := Option.bind_eq_some_iff.mp H; obtain ⟨t637, A40, H⟩ := H; (try dsimp only at H); have A4 := ak A40; clear A40; obtain rfl := Option.some.inj H; go_enter Try.func47, Try.ntmps47
 go_wp2_with (first | ((with_reducible refine gate_dst (N := 1) rfl ?_); refine boxA 1 #[.int .i64 a0_0, .int .i64 a0_1, .slice A0_2 l0_2.length c0_2, .slice A0_3 l0_3.length c0_3, .int .i64 a0_4] 49 ?_; intro gb635 hg w5 hbox hb; have BK635 := ak hbox; have GW635 := leA (w := w) hg; have GE635 := leA (w := w) hg; replace HB := bS hb; clear hb hbox hg; obtain ⟨_, _, _, _, _, _, _, _, _, _⟩ := cel5 BK635) | ((with_reducible refine gate_callee (f := 86) rfl ?_); refine goB 4 Try.func86 #[.agg #[.int .i64 a0_0, .int .i64 a0_1, .slice A0_2 l0_2.length c0_2, .slice A0_3 l0_3.length c0_3, .int .i64 a0_4]] rfl ?_; (with_reducible refine (impl_isJob.calls k a0_0 a0_1 _ _ l0_2 _ _ l0_3 a0_4 true _ ?side1 ?side2 ?side3 ?side4 A2.out).mono ?_); (case side1 => exact cA (Kd.C_below HR0_2.out HB.out)); (case side2 => exact HC0_2.out); (case side3 => exact cA (Kd.C_below HR0_3.out HB.out)); (case side4 => exact HC0_3.out); rintro e w7 ⟨rfl, hb⟩; refine ⟨_, rfl, ?_⟩; replace BK635 := bB BK635 hb; replace HB := bS hb; (try clear hb); obtain ⟨_, _, _, _, _, _, _, _, _, _⟩ := cel5 BK635) | ((with_reducible refine gate_callee (f := 87) rfl ?_); refine goB 7 Try.func87 #[.agg #[.int .i64 a0_0, .int .i64 a0_1, .slice A0_2 l0_2.length c0_2, .slice A0_3 l0_3.length c0_3, .int .i64 a0_4]] rfl ?_; (with_reducible refine (impl_encodeJob.calls k a0_0 a0_1 (fun k_ => k_ < w.heap.size) _ _ l0_2 (fun k_ => k_ < w.heap.size) _ _ l0_3 a0_4 t637 _ ?side1 ?side2 A4.out).mono ?_); (case side1 => exact Kd.V_mk HC0_2.out (Kd.F_below (Kd.C_F (Kd.heap_int .i64) HR0_2.out) belA)); (case side2 => exact Kd.V_mk HC0_3.out (Kd.F_below (Kd.C_F (Kd.heap_int .i64) HR0_3.out) belA)); rintro e w9 ⟨v638, rfl, ho0, hb⟩; refine ⟨_, rfl, ?_⟩; have HO639 := rL (Kd.R_mono (ok' := fun k_ => True) ho0 (fun _ hk_ => trivial)); replace BK635 := bB BK635 hb; replace HB := bS hb; (try clear hb ho0)))
 go_ret
 exact ⟨_, xq6, by (with_reducible repeat (first | apply Kd.R_alloc | apply Kd.R_drewN | apply Kd.R_drew)); exact HO639.out, belA⟩

def laws_same.l0 : Nat → List Int → List Int → Int → Option (Bool)
 | 0, _, _, _ => none
 | k + 1, x0, x1, x5 => if x5 < (x0.length : Int) then (if 0 ≤ x5 then (if x5 < (x1.length : Int) then (if (rd x0 x5) = (rd x1 x5) then (laws_same.l0 k x0 x1 (wrap64 (x5 + 1))) else (some false)) else (none)) else (none)) else (some true)
def laws_same.f (k : Nat) (l0 : List Int) (l1 : List Int) : Option (Bool) := if (l0.length : Int) = (l1.length : Int) then (laws_same.l0 k l0 l1 0) else (some false)
theorem laws_same.mono_l : ∀ k, (∀ y0 y1 y2, LeO (laws_same.l0 k y0 y1 y2) (laws_same.l0 (k + 1) y0 y1 y2))
 | 0 => fun _ _ _ r h => by simp [laws_same.l0] at h
 | k + 1 => by
  have ih0 := laws_same.mono_l k
  · intro y0 y1 y2; unfold laws_same.l0; exact xq18
theorem laws_same.mono : ∀ a0 a1 k, LeO (laws_same.f k a0 a1) (laws_same.f (k + 1) a0 a1) := by
 intro a0 a1 k; have ih0 := laws_same.mono_l k
 unfold laws_same.f
 exact xq18
theorem laws_same.calls (k : Nat) (A0 : Option Addr) (c0 : Nat) (l0 : List Int) (A1 : Option Addr) (c1 : Nat) (l1 : List Int) (r : Bool) (w : World) (hr0 : Kd.C (Kd.int .i64) w A0 l0.length l0) (hc0 : l0.length ≤ c0) (hr1 : Kd.C (Kd.int .i64) w A1 l1.length l1) (hc1 : l1.length ≤ c1) (h : laws_same.f k l0 l1 = some r) :
 Calls Try.prog 88 #[.slice A0 l0.length c0, .slice A1 l1.length c1] w fun e w' => e = .returned (.bool r) ∧ Drawn0 w w' := by
 have HR0 := ak hr0; have HC0 := ak hc0; clear hr0 hc0; have HR1 := ak hr1; have HC1 := ak hc1; clear hr1 hc1; have H : (if (l0.length : Int) = (l1.length : Int) then (laws_same.l0 k l0 l1 0) else (some false)) = some r := h; clear h
 by_cases c3 : (l0.length : Int) = (l1.length : Int); rotate_left
 · rw [if_neg c3] at H; have c3b0 : ((l0.length : Int) == (l1.length : Int)) = false := beq_eq_false_iff_ne.mpr c3; have c3b1 : ((l0.length : Int) != (l1.length : Int)) = true := bne_iff_ne.mpr c3; have c3b2 : (l0.length == l1.length) = false := by first | simpa using c3 | (simp at c3 ⊢; omega)
   obtain rfl := Option.some.inj H; go_enter Try.func88, Try.ntmps88
   go_wp2
   repeat (go_quiet (fail); try go_wp2)
   go_ret
   exact ⟨xq10, xq5⟩
 rw [if_pos c3] at H; have c3b0 : ((l0.length : Int) == (l1.length : Int)) = true := beq_iff_eq.mpr c3; have c3b1 : ((l0.length : Int) != (l1.length : Int)) = false := bne_eq_false_iff_eq.mpr c3; have c3b2 : (l0.length == l1.length) = true := by first | simpa using c3 | (simp at c3 ⊢; omega)
 clear c3; have H' := ak H; clear H; go_enter Try.func88, Try.ntmps88
 go_wp2
 repeat (go_quiet (fail); try go_wp2)
 go_loopg [5] k (fun kq v5 w' => ∃ (x5_1 : Int), v5 = .int .i64 x5_1 ∧ Aside0 (laws_same.l0 kq l0 l1 x5_1 = some r) ∧ Aside0 (kq ≤ k) ∧ Drawn0 w w')
 case atStart => exact ⟨(0), eqA, H', ⟨Nat.le_refl _⟩, xq5⟩
 case round =>
  clear H'; obtain ⟨x5_1, rfl, HA, HK1, ⟨m1, rfl⟩⟩ := hrel
  cases gk with
  | zero => exact absurd HA.out (by simp [laws_same.l0])
  | succ k1 =>
   have H := HA.out; clear HA; simp only [laws_same.l0] at H
   by_cases c4 : x5_1 < (l0.length : Int); rotate_left
   · rw [if_neg c4] at H; have c4b0 := decide_eq_false c4; clear c4; obtain rfl := Option.some.inj H; go_wp2
     repeat (go_quiet (fail); try go_wp2)
     go_ret
     exact ⟨xq10, xq5⟩
   rw [if_pos c4] at H; have c4b0 := decide_eq_true c4; clear c4
   by_cases c5 : 0 ≤ x5_1; rotate_left
   · rw [if_neg c5] at H; exact absurd H (by simp)
   rw [if_pos c5] at H; have c5b0 := decide_eq_true c5; clear c5
   by_cases c6 : x5_1 < (l1.length : Int); rotate_left
   · rw [if_neg c6] at H; exact absurd H (by simp)
   rw [if_pos c6] at H; have c6b0 := decide_eq_true c6; clear c6
   by_cases c7 : (rd l0 x5_1) = (rd l1 x5_1); rotate_left
   · rw [if_neg c7] at H; have c7b0 : ((rd l0 x5_1) == (rd l1 x5_1)) = false := beq_eq_false_iff_ne.mpr c7; have c7b1 : ((rd l0 x5_1) != (rd l1 x5_1)) = true := bne_iff_ne.mpr c7; obtain rfl := Option.some.inj H; have p640 : 0 ≤ (x5_1 : Int) := odA; have q640 : x5_1 < (l0.length : Int) := odA; obtain ⟨ad640, e640, hx640_0⟩ := Kd.at_int HR0.out x5_1 p640 q640
     cases e640
     replace p640 := eq_true p640; replace q640 := eq_true q640; have p641 : 0 ≤ (x5_1 : Int) := odA; have q641 : x5_1 < (l1.length : Int) := odA; obtain ⟨ad641, e641, hx641_0⟩ := Kd.at_int HR1.out x5_1 p641 q641
     cases e641
     replace p641 := eq_true p641; replace q641 := eq_true q641; go_wp2
     repeat (go_quiet (fail); try go_wp2)
     go_ret
     exact ⟨xq10, xq5⟩
   rw [if_pos c7] at H; have c7b0 : ((rd l0 x5_1) == (rd l1 x5_1)) = true := beq_iff_eq.mpr c7; have c7b1 : ((rd l0 x5_1) != (rd l1 x5_1)) = false := bne_eq_false_iff_eq.mpr c7; clear c7; have H' := ak H; clear H; have p640 : 0 ≤ (x5_1 : Int) := odA; have q640 : x5_1 < (l0.length : Int) := odA; obtain ⟨ad640, e640, hx640_0⟩ := Kd.at_int HR0.out x5_1 p640 q640
   cases e640
   replace p640 := eq_true p640; replace q640 := eq_true q640; have p641 : 0 ≤ (x5_1 : Int) := odA; have q641 : x5_1 < (l1.length : Int) := odA; obtain ⟨ad641, e641, hx641_0⟩ := Kd.at_int HR1.out x5_1 p641 q641
   cases e641
   replace p641 := eq_true p641; replace q641 := eq_true q641; go_wp2
   repeat (go_quiet (fail); try go_wp2)
   go_roundg k1
   case measure => have := HK1.out; omega
   case rel => exact ⟨(wrap64 (x5_1 + 1)), eqA, H', ⟨xq19⟩, xq5⟩

end Go.Proofs.Ytogdhclomgafdaa.PFnJobBytes

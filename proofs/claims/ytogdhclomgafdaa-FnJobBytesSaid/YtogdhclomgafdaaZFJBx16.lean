-- Written by a program of this session (the print of the kit with contracts of this session's own added)
import Derived.Test.YtogdhclomgafdaaZFJBx10
import Derived.Test.YtogdhclomgafdaaZFJBx15
set_option maxHeartbeats 8000000
set_option maxRecDepth 100000
namespace Go.Proofs.Ytogdhclomgafdaa.PFnJobBytes
open Go.RowKit Go.Proofs.YtogdhclomgafdaaW.PrintWords Go.Proofs.YtogdhclomgafdaaW.PrintLast Go.Proofs.YtogdhclomgafdaaW.PrintMore Go.Proofs.YtogdhclomgafdaaW.PrintPack Go.Proofs.YtogdhclomgafdaaW.PrintPack
set_option linter.unusedVariables false
set_option linter.unusedSimpArgs false

def spec_EncodeJob.f (k : Nat) (a0_0 : Int) (a0_1 : Int) (l0_2 : List Int) (l0_3 : List Int) (a0_4 : Int) : Option (List Int) := (spec_JobOk.f k a0_0 a0_1 l0_2 l0_3 a0_4).bind fun t685 => (if t685 = true then ((spec_PutNumber.f k a0_4).bind fun t689 => ((spec_l01Join.f k (([(a0_0) % 256, (a0_1) % 256] : List Int)) t689).bind fun t692 => ((spec_l10PutList.f k t692 l0_2).bind fun t695 => ((spec_l10PutList.f k t695 l0_3).bind fun t698 => (some t698))))) else (some ([] : List Int)))
theorem spec_EncodeJob.mono : ∀ a0 a1 a2 a3 a4 k, LeO (spec_EncodeJob.f k a0 a1 a2 a3 a4) (spec_EncodeJob.f (k + 1) a0 a1 a2 a3 a4) := by
 intro a0 a1 a2 a3 a4 k
 unfold spec_EncodeJob.f
 exact (by repeat' (with_reducible first | exact spec_JobOk.mono _ _ _ _ _ _ | exact spec_PutNumber.mono _ _ | exact spec_l01Join.mono _ _ _ | exact spec_l10PutList.mono _ _ _ | exact LeO.refl _ | exact LeO.none _ | refine LeO.ite ?_ ?_ | refine LeO.bind ?_ (fun _ => ?_)))
def spec_EncodeJob.T3 : Bool × List (List Nat × List Nat) := (true, [([], []), ([0], [0]), ([1], [1]), ([], []), ([3], [3]), ([4], [4]), ([2, 5], [2, 5]), ([], []), ([7], [7]), ([8], [8]), ([6, 9, 9], [6, 9]), ([10, 10, 0, 1, 2, 3, 4, 5, 6, 7, 8, 9, 10], [10])])
def spec_EncodeJob.B3 : List Nat := [0, 1, 3, 0, 8, 24, 63, 0, 128, 384, 1023, 2047]
theorem spec_EncodeJob.tab3 : rtab .any (opsOf Try.f89 3) = spec_EncodeJob.T3 := by kernel_rfl
theorem spec_EncodeJob.bits3 : waitsOk spec_EncodeJob.T3.2 spec_EncodeJob.B3 = true := by kernel_rfl
def spec_EncodeJob.T4 : Bool × List (List Nat × List Nat) := (true, [([], []), ([], []), ([1], [1]), ([0, 2], [0, 2]), ([], []), ([4], [4]), ([3, 5, 3], [3, 5]), ([6, 6, 0, 1, 2, 3, 4, 5, 6], [6])])
def spec_EncodeJob.B4 : List Nat := [0, 0, 2, 7, 0, 16, 63, 127]
theorem spec_EncodeJob.tab4 : rtab .any (opsOf Try.f89 4) = spec_EncodeJob.T4 := by kernel_rfl
theorem spec_EncodeJob.bits4 : waitsOk spec_EncodeJob.T4.2 spec_EncodeJob.B4 = true := by kernel_rfl
theorem spec_EncodeJob.calls (k : Nat) (a0_0 : Int) (a0_1 : Int) (A0_2 : Option Addr) (c0_2 : Nat) (l0_2 : List Int) (A0_3 : Option Addr) (c0_3 : Nat) (l0_3 : List Int) (a0_4 : Int) (r : List Int) (w : World) (hr0_2 : Kd.C (Kd.int .i64) w A0_2 l0_2.length l0_2) (hc0_2 : l0_2.length ≤ c0_2) (hr0_3 : Kd.C (Kd.int .i64) w A0_3 l0_3.length l0_3) (hc0_3 : l0_3.length ≤ c0_3) (h : spec_EncodeJob.f k a0_0 a0_1 l0_2 l0_3 a0_4 = some r) :
 Calls Try.prog 89 #[.agg #[.int .i64 a0_0, .int .i64 a0_1, .slice A0_2 l0_2.length c0_2, .slice A0_3 l0_3.length c0_3, .int .i64 a0_4]] w fun e w' => ∃ v0_ : Value, e = .returned (v0_) ∧ Kd.R (Kd.int .u8) 5 w' w.heap.size (fun _ => True) v0_ r ∧ Below w.heap.size w w' := by
 have hu49 := Try.underlying49; have HR0_2 := ak hr0_2; have HC0_2 := ak hc0_2; clear hr0_2 hc0_2; have HR0_3 := ak hr0_3; have HC0_3 := ak hc0_3; clear hr0_3 hc0_3; have HB := ak (Below.refl w.heap.size w); have H : ((spec_JobOk.f k a0_0 a0_1 l0_2 l0_3 a0_4).bind fun t685 => (if t685 = true then ((spec_PutNumber.f k a0_4).bind fun t689 => ((spec_l01Join.f k (([(a0_0) % 256, (a0_1) % 256] : List Int)) t689).bind fun t692 => ((spec_l10PutList.f k t692 l0_2).bind fun t695 => ((spec_l10PutList.f k t695 l0_3).bind fun t698 => (some t698))))) else (some ([] : List Int)))) = some r := h; clear h; replace H := Option.bind_eq_some_iff.mp H; obtain ⟨t685, A20, H⟩ := H; (try dsimp only at H); have A2 := ak A20; clear A20
 by_cases c3 : t685 = true; rotate_left
 · replace c3 := Bool.eq_false_iff.mpr c3; subst c3; have H1 : (some ([] : List Int)) = some r := by rw [if_neg (show ¬ (false = true) by decide)] at H; exact H
   clear H; have H := H1; clear H1; obtain rfl := Option.some.inj H; go_enter Try.func89, Try.ntmps89
   go_wp2_with (first | ((with_reducible refine gate_dst (N := 1) rfl ?_); refine boxA 1 #[.int .i64 a0_0, .int .i64 a0_1, .slice A0_2 l0_2.length c0_2, .slice A0_3 l0_3.length c0_3, .int .i64 a0_4] 49 ?_; intro gb684 hg w24 hbox hb; have BK684 := ak hbox; have GW684 := leA (w := w) hg; have GE684 := leA (w := w) hg; replace HB := bS hb; clear hb hbox hg; obtain ⟨_, _, _, _, _, _, _, _, _, _⟩ := cel5 BK684) | ((with_reducible refine gate_callee (f := 45) rfl ?_); refine goB 5 Try.func45 #[.agg #[.int .i64 a0_0, .int .i64 a0_1, .slice A0_2 l0_2.length c0_2, .slice A0_3 l0_3.length c0_3, .int .i64 a0_4]] rfl ?_; (with_reducible refine (spec_JobOk.calls k a0_0 a0_1 _ _ l0_2 _ _ l0_3 a0_4 false _ ?side1 ?side2 ?side3 ?side4 A2.out).mono ?_); (case side1 => exact cA (Kd.C_below HR0_2.out HB.out)); (case side2 => exact HC0_2.out); (case side3 => exact cA (Kd.C_below HR0_3.out HB.out)); (case side4 => exact HC0_3.out); rintro e w26 ⟨rfl, hb⟩; refine ⟨_, rfl, ?_⟩; replace BK684 := bB BK684 hb; replace HB := bS hb; (try clear hb)))
   go_ret
   exact ⟨_, xq6, xq16, belA⟩
 subst c3; have H1 : ((spec_PutNumber.f k a0_4).bind fun t689 => ((spec_l01Join.f k (([(a0_0) % 256, (a0_1) % 256] : List Int)) t689).bind fun t692 => ((spec_l10PutList.f k t692 l0_2).bind fun t695 => ((spec_l10PutList.f k t695 l0_3).bind fun t698 => (some t698))))) = some r := by rw [if_pos rfl] at H; exact H
 clear H; have H := H1; clear H1; obtain ⟨y686, hyq⟩ : ∃ y_ : List Int, y_ = (([(a0_0) % 256, (a0_1) % 256] : List Int)) := ⟨_, rfl⟩; replace H : ((spec_PutNumber.f k a0_4).bind fun t689 => ((spec_l01Join.f k y686 t689).bind fun t692 => ((spec_l10PutList.f k t692 l0_2).bind fun t695 => ((spec_l10PutList.f k t695 l0_3).bind fun t698 => (some t698))))) = some r := by first | (rw [hyq]; with_reducible exact H) | (have H2_ := (Option.bind_some _ _).symm.trans H; rw [hyq]; with_reducible exact H2_) | (have H2_ := (Option.bind_some _ _).symm.trans H; with_reducible exact H2_) | with_reducible exact H | (rw [hyq]; exact H) | exact H
 have Ny686 := ak hyq; clear hyq; replace H := Option.bind_eq_some_iff.mp H; obtain ⟨t689, A40, H⟩ := H; (try dsimp only at H); have A4 := ak A40; clear A40; replace H := Option.bind_eq_some_iff.mp H; obtain ⟨t692, A50, H⟩ := H; (try dsimp only at H); have A5 := ak A50; clear A50; replace H := Option.bind_eq_some_iff.mp H; obtain ⟨t695, A60, H⟩ := H; (try dsimp only at H); have A6 := ak A60; clear A60; replace H := Option.bind_eq_some_iff.mp H; obtain ⟨t698, A70, H⟩ := H; (try dsimp only at H); have A7 := ak A70; clear A70; obtain rfl := Option.some.inj H; go_enter Try.func89, Try.ntmps89
 try go_wp2_with (first | ((with_reducible refine gate_dst (N := 1) rfl ?_); refine boxA 1 #[.int .i64 a0_0, .int .i64 a0_1, .slice A0_2 l0_2.length c0_2, .slice A0_3 l0_3.length c0_3, .int .i64 a0_4] 49 ?_; intro gb684 hg w8 hbox hb; have BK684 := ak hbox; have GW684 := leA (w := w) hg; have GE684 := leA (w := w) hg; replace HB := bS hb; clear hb hbox hg; obtain ⟨_, _, _, _, _, _, _, _, _, _⟩ := cel5 BK684) | ((with_reducible refine gate_callee (f := 45) rfl ?_); refine goB 5 Try.func45 #[.agg #[.int .i64 a0_0, .int .i64 a0_1, .slice A0_2 l0_2.length c0_2, .slice A0_3 l0_3.length c0_3, .int .i64 a0_4]] rfl ?_; (with_reducible refine (spec_JobOk.calls k a0_0 a0_1 _ _ l0_2 _ _ l0_3 a0_4 true _ ?side1 ?side2 ?side3 ?side4 A2.out).mono ?_); (case side1 => exact cA (Kd.C_below HR0_2.out HB.out)); (case side2 => exact HC0_2.out); (case side3 => exact cA (Kd.C_below HR0_3.out HB.out)); (case side4 => exact HC0_3.out); rintro e w10 ⟨rfl, hb⟩; refine ⟨_, rfl, ?_⟩; replace BK684 := bB BK684 hb; replace HB := bS hb; (try clear hb)))
 replace BK684 := ak (blk_drew BK684.out); replace HB := ak (below_drew1 HB.out); refine start_ (n := 12) (S := fun w' => True) (ds := []) #[false, false, false, false, false, false, false, false, false, false, false, false] (by kernel_rfl) rfl rfl trivial (fun hHeld => ?_); refine with_tabW spec_EncodeJob.tab3 spec_EncodeJob.bits3 (fun HT_ HW_ => ?_)
 generalize w10.drew = w11 at BK684 HB hHeld ⊢
 refine pure_ (i := 0) (N := some 7) (v := ?_) (a' := ?_) #[true, false, false, false, false, false, false, false, false, false, false, false] rfl rfl (any_of HT_.out (by kernel_rfl)) (fun _ _ _ h => h) (Or.inl ⟨by rfl, ?_⟩) ?_ ?_
 rotate_left
 · intro w'; go_simp
   with_reducible rfl
 rotate_left
 · simp only [Act.put, sa, sb, sc, i64_w, i32_w]
   rfl
 refine pure_ (i := 3) (N := some 10) (v := ?_) (a' := ?_) #[true, false, false, true, false, false, false, false, false, false, false, false] rfl rfl (any_of HT_.out (by kernel_rfl)) (fun _ _ _ h => h) (Or.inl ⟨by rfl, ?_⟩) ?_ ?_
 rotate_left
 · intro w'; go_simp
   with_reducible rfl
 rotate_left
 · simp only [Act.put, sa, sb, sc, i64_w, i32_w]
   rfl
 refine pure_ (i := 7) (N := some 14) (v := ?_) (a' := ?_) #[true, false, false, true, false, false, false, true, false, false, false, false] rfl rfl (any_of HT_.out (by kernel_rfl)) (fun _ _ _ h => h) (Or.inl ⟨by rfl, ?_⟩) ?_ ?_
 rotate_left
 · intro w'; go_simp
   with_reducible rfl
 rotate_left
 · simp only [Act.put, sa, sb, sc, i64_w, i32_w]
   rfl
 refine inv_at [1, 2, 4, 5, 6, 8, 9, 10, 11] (fun a0_ b a w' => ∃ (v687 : Value) (v690 : Value) (v693 : Value) (m11_ : Value), a = putSel a0_ b [(1, 8, .int .i64 a0_0), (2, 9, .int .u8 ((a0_0) % 256)), (4, 11, .int .i64 a0_1), (5, 12, .int .u8 ((a0_1) % 256)), (6, 13, v687), (8, 15, .int .i64 a0_4), (9, 16, v690), (10, 17, v693), (11, 3, m11_)] ∧ (w'.heap[gb684]? = some (.cells #[.int .i64 a0_0, .int .i64 a0_1, .slice A0_2 l0_2.length c0_2, .slice A0_3 l0_3.length c0_3, .int .i64 a0_4] 49 (0, 0))) ∧ (Below w.heap.size w w') ∧ (b 6 = true → Kd.R (Kd.int .u8) 5 w' w.heap.size (fun _ => True) v687 y686) ∧ (b 9 = true → Kd.R (Kd.int .u8) 5 w' w.heap.size (fun _ => True) v690 t689) ∧ (b 10 = true → Kd.R (Kd.int .u8) 5 w' w.heap.size (fun _ => True) v693 t692) ∧ (b 11 = true → (m11_ : Value) = v693)) HT_.out HW_.out (by kernel_rfl) (by kernel_rfl) ?_ ?_ ?_
 · exact ⟨.bool false, .bool false, .bool false, .bool false, by simp only [putSel, Bool.false_eq_true, if_false], BK684.out, HB.out, fun h_ => absurd h_ (by decide), fun h_ => absurd h_ (by decide), fun h_ => absurd h_ (by decide), fun h_ => absurd h_ (by decide)⟩
 · skip
   clear BK684 HB; refine steps_cons ?_ ?_
   · rintro b a w' ⟨v687, v690, v693, m11_, ha, Q_BK684, Q_HB, Q_HO688, Q_HO691, Q_HO694, Q_X11_⟩ hb_ hon hoff
     refine ⟨_, rfl, fun K hK => ?_⟩
     have e7 : a.tmps[7]? = some (.pointer (some ⟨gb684, 0, none⟩)) := by rw [ha]; exact (putSel_off rfl).trans rfl
     replace ha := ak ha; have BK684 := ak Q_BK684; have HB := ak Q_HB; have hc0_ : w'.cell? ⟨gb684, 0, none⟩ = some (.int .i64 a0_0) := (blk_cell BK684.out 0).trans rfl; have hc1_ : w'.cell? ⟨gb684, 1, none⟩ = some (.int .i64 a0_1) := (blk_cell BK684.out 1).trans rfl; have hc2_ : w'.cell? ⟨gb684, 2, none⟩ = some (.slice A0_2 l0_2.length c0_2) := (blk_cell BK684.out 2).trans rfl; have hc3_ : w'.cell? ⟨gb684, 3, none⟩ = some (.slice A0_3 l0_3.length c0_3) := (blk_cell BK684.out 3).trans rfl; have hc4_ : w'.cell? ⟨gb684, 4, none⟩ = some (.int .i64 a0_4) := (blk_cell BK684.out 4).trans rfl; refine value_ (w1 := w') (v := .int .i64 a0_0) (by rfl) rfl ?_ ?_
     · go_simp
       (try simp only [i64_w])
       try rfl
     refine hK.out _ _ ⟨v687, v690, v693, m11_, (by rw [ha.out]; exact putSel_upk 0 hb_ rfl rfl rfl), Q_BK684, Q_HB, fun h0_ => absurd ((hoff 6 (by kernel_rfl)).symm.trans h0_) (by decide), Q_HO691, fun h0_ => absurd ((hoff 10 (by kernel_rfl)).symm.trans h0_) (by decide), fun h0_ => absurd ((hoff 11 (by kernel_rfl)).symm.trans h0_) (by decide)⟩
   refine steps_cons ?_ ?_
   · rintro b a w' ⟨v687, v690, v693, m11_, ha, Q_BK684, Q_HB, Q_HO688, Q_HO691, Q_HO694, Q_X11_⟩ hb_ hon hoff
     refine ⟨_, rfl, fun K hK => ?_⟩
     have e8 : a.tmps[8]? = some (.int .i64 a0_0) := by rw [ha]; exact putSel_on (e := (1, 8, .int .i64 a0_0)) 0 rfl rfl (hon 1 (by kernel_rfl)) rfl
     replace ha := ak ha; have BK684 := ak Q_BK684; have HB := ak Q_HB; refine value_ (w1 := w') (v := .int .u8 ((a0_0) % 256)) (by rfl) rfl ?_ ?_
     · go_simp
       (try simp only [i64_w])
       try rfl
     refine hK.out _ _ ⟨v687, v690, v693, m11_, (by rw [ha.out]; exact putSel_upk 1 hb_ rfl rfl rfl), Q_BK684, Q_HB, fun h0_ => absurd ((hoff 6 (by kernel_rfl)).symm.trans h0_) (by decide), Q_HO691, fun h0_ => absurd ((hoff 10 (by kernel_rfl)).symm.trans h0_) (by decide), fun h0_ => absurd ((hoff 11 (by kernel_rfl)).symm.trans h0_) (by decide)⟩
   refine steps_cons ?_ ?_
   · rintro b a w' ⟨v687, v690, v693, m11_, ha, Q_BK684, Q_HB, Q_HO688, Q_HO691, Q_HO694, Q_X11_⟩ hb_ hon hoff
     refine ⟨_, rfl, fun K hK => ?_⟩
     have e10 : a.tmps[10]? = some (.pointer (some ⟨gb684, 1, none⟩)) := by rw [ha]; exact (putSel_off rfl).trans rfl
     replace ha := ak ha; have BK684 := ak Q_BK684; have HB := ak Q_HB; have hc0_ : w'.cell? ⟨gb684, 0, none⟩ = some (.int .i64 a0_0) := (blk_cell BK684.out 0).trans rfl; have hc1_ : w'.cell? ⟨gb684, 1, none⟩ = some (.int .i64 a0_1) := (blk_cell BK684.out 1).trans rfl; have hc2_ : w'.cell? ⟨gb684, 2, none⟩ = some (.slice A0_2 l0_2.length c0_2) := (blk_cell BK684.out 2).trans rfl; have hc3_ : w'.cell? ⟨gb684, 3, none⟩ = some (.slice A0_3 l0_3.length c0_3) := (blk_cell BK684.out 3).trans rfl; have hc4_ : w'.cell? ⟨gb684, 4, none⟩ = some (.int .i64 a0_4) := (blk_cell BK684.out 4).trans rfl; refine value_ (w1 := w') (v := .int .i64 a0_1) (by rfl) rfl ?_ ?_
     · go_simp
       (try simp only [i64_w])
       try rfl
     refine hK.out _ _ ⟨v687, v690, v693, m11_, (by rw [ha.out]; exact putSel_upk 2 hb_ rfl rfl rfl), Q_BK684, Q_HB, fun h0_ => absurd ((hoff 6 (by kernel_rfl)).symm.trans h0_) (by decide), Q_HO691, fun h0_ => absurd ((hoff 10 (by kernel_rfl)).symm.trans h0_) (by decide), fun h0_ => absurd ((hoff 11 (by kernel_rfl)).symm.trans h0_) (by decide)⟩
   refine steps_cons ?_ ?_
   · rintro b a w' ⟨v687, v690, v693, m11_, ha, Q_BK684, Q_HB, Q_HO688, Q_HO691, Q_HO694, Q_X11_⟩ hb_ hon hoff
     refine ⟨_, rfl, fun K hK => ?_⟩
     have e11 : a.tmps[11]? = some (.int .i64 a0_1) := by rw [ha]; exact putSel_on (e := (4, 11, .int .i64 a0_1)) 2 rfl rfl (hon 4 (by kernel_rfl)) rfl
     replace ha := ak ha; have BK684 := ak Q_BK684; have HB := ak Q_HB; refine value_ (w1 := w') (v := .int .u8 ((a0_1) % 256)) (by rfl) rfl ?_ ?_
     · go_simp
       (try simp only [i64_w])
       try rfl
     refine hK.out _ _ ⟨v687, v690, v693, m11_, (by rw [ha.out]; exact putSel_upk 3 hb_ rfl rfl rfl), Q_BK684, Q_HB, fun h0_ => absurd ((hoff 6 (by kernel_rfl)).symm.trans h0_) (by decide), Q_HO691, fun h0_ => absurd ((hoff 10 (by kernel_rfl)).symm.trans h0_) (by decide), fun h0_ => absurd ((hoff 11 (by kernel_rfl)).symm.trans h0_) (by decide)⟩
   refine steps_cons ?_ ?_
   · rintro b a w' ⟨v687, v690, v693, m11_, ha, Q_BK684, Q_HB, Q_HO688, Q_HO691, Q_HO694, Q_X11_⟩ hb_ hon hoff
     refine ⟨_, rfl, fun K hK => ?_⟩
     have e9 : a.tmps[9]? = some (.int .u8 ((a0_0) % 256)) := by rw [ha]; exact putSel_on (e := (2, 9, .int .u8 ((a0_0) % 256))) 1 rfl rfl (hon 2 (by kernel_rfl)) rfl
     have e12 : a.tmps[12]? = some (.int .u8 ((a0_1) % 256)) := by rw [ha]; exact putSel_on (e := (5, 12, .int .u8 ((a0_1) % 256))) 3 rfl rfl (hon 5 (by kernel_rfl)) rfl
     replace ha := ak ha; have BK684 := ak Q_BK684; have HB := ak Q_HB; refine Kd.R_lit_step (Kd.int .u8) _ 5 ?hg (N := 13) ?hd (xs := ([(a0_0) % 256, (a0_1) % 256] : List Int)) (inner := [.int .u8 ((a0_0) % 256), .int .u8 ((a0_1) % 256)]) (ok := fun _ => True) (okp := fun _ => True) ?hr ?hp (fun _ hk => hk) trivial (Below.refl _ _) (Nat.le_refl _) (by simp) ?_; (case hd => rfl); (case hg => rfl); (case hr => exact xq11); (case hp => exact xq59)
     intro v687 w12 ho13 hb hg_ hnew_; clear hg_ hnew_; (first | rw [← Ny686.out] at ho13 | (simp only [Int.reduceToNat] at ho13; rw [← Ny686.out] at ho13))
     have n0_ := rL ho13; have n1_ := bB BK684 hb; have n2_ := bS hb; have z_HO691 := fun (h0_ : b 9 = true) => (show Kd.R (Kd.int .u8) 5 w12 w.heap.size (fun _ => True) v690 t689 from by first | exact (Kd.R_elder' (rE (Q_HO691 h0_)) (Kd.R_base ho13) hb) | exact Kd.R_mono (Kd.R_elder' (rE (Q_HO691 h0_)) (Kd.R_base ho13) hb) (fun _ h_ => by first | trivial | exact h_ | exact h_.1))
     clear BK684; clear HB; have HO688 := n0_; have BK684 := n1_; have HB := n2_; clear n0_ n1_ n2_; clear hb ho13; refine hK.out _ _ ⟨v687, v690, v693, m11_, (by rw [ha.out]; exact putSel_upk 4 hb_ rfl rfl rfl), blkA, belA, fun _ => (rF HO688), z_HO691, fun h0_ => absurd ((hoff 10 (by kernel_rfl)).symm.trans h0_) (by decide), fun h0_ => absurd ((hoff 11 (by kernel_rfl)).symm.trans h0_) (by decide)⟩
   refine steps_cons ?_ ?_
   · rintro b a w' ⟨v687, v690, v693, m11_, ha, Q_BK684, Q_HB, Q_HO688, Q_HO691, Q_HO694, Q_X11_⟩ hb_ hon hoff
     refine ⟨_, rfl, fun K hK => ?_⟩
     have e14 : a.tmps[14]? = some (.pointer (some ⟨gb684, 4, none⟩)) := by rw [ha]; exact (putSel_off rfl).trans rfl
     replace ha := ak ha; have BK684 := ak Q_BK684; have HB := ak Q_HB; have hc0_ : w'.cell? ⟨gb684, 0, none⟩ = some (.int .i64 a0_0) := (blk_cell BK684.out 0).trans rfl; have hc1_ : w'.cell? ⟨gb684, 1, none⟩ = some (.int .i64 a0_1) := (blk_cell BK684.out 1).trans rfl; have hc2_ : w'.cell? ⟨gb684, 2, none⟩ = some (.slice A0_2 l0_2.length c0_2) := (blk_cell BK684.out 2).trans rfl; have hc3_ : w'.cell? ⟨gb684, 3, none⟩ = some (.slice A0_3 l0_3.length c0_3) := (blk_cell BK684.out 3).trans rfl; have hc4_ : w'.cell? ⟨gb684, 4, none⟩ = some (.int .i64 a0_4) := (blk_cell BK684.out 4).trans rfl; refine value_ (w1 := w') (v := .int .i64 a0_4) (by rfl) rfl ?_ ?_
     · go_simp
       (try simp only [i64_w])
       try rfl
     refine hK.out _ _ ⟨v687, v690, v693, m11_, (by rw [ha.out]; exact putSel_upk 5 hb_ rfl rfl rfl), Q_BK684, Q_HB, Q_HO688, fun h0_ => absurd ((hoff 9 (by kernel_rfl)).symm.trans h0_) (by decide), fun h0_ => absurd ((hoff 10 (by kernel_rfl)).symm.trans h0_) (by decide), fun h0_ => absurd ((hoff 11 (by kernel_rfl)).symm.trans h0_) (by decide)⟩
   refine steps_cons ?_ ?_
   · rintro b a w' ⟨v687, v690, v693, m11_, ha, Q_BK684, Q_HB, Q_HO688, Q_HO691, Q_HO694, Q_X11_⟩ hb_ hon hoff
     refine ⟨_, rfl, fun K hK => ?_⟩
     have e15 : a.tmps[15]? = some (.int .i64 a0_4) := by rw [ha]; exact putSel_on (e := (8, 15, .int .i64 a0_4)) 5 rfl rfl (hon 8 (by kernel_rfl)) rfl
     replace ha := ak ha; have BK684 := ak Q_BK684; have HB := ak Q_HB; refine goes_ Try.func116 (by kernel_rfl) rfl #[.int .i64 a0_4] (by rfl) rfl rfl (by first | (simp only [List.map_toArray, List.map_cons, List.map_nil, Act.eval, Array.getD_eq_getD_getElem?, Option.getD_some, e15]; done) | (simp only [List.map_toArray, List.map_cons, List.map_nil, Act.eval, Array.getD_eq_getD_getElem?, Option.getD_some, e15]; rfl)) ?_
     with_reducible refine (spec_PutNumber.calls k a0_4 t689 _ A4.out).mono ?_
     rintro e w12 ⟨v690, rfl, ho0, hb⟩
     refine ⟨_, rfl, ?_⟩
     have n0_ := rL ho0; have n1_ := bB BK684 hb; have n2_ := bS hb; have z_HO688 := fun (h0_ : b 6 = true) => (show Kd.R (Kd.int .u8) 5 w12 w.heap.size (fun _ => True) v687 y686 from by first | exact (Kd.R_elder' (rE (Q_HO688 h0_)) (Kd.R_base ho0) hb) | exact Kd.R_mono (Kd.R_elder' (rE (Q_HO688 h0_)) (Kd.R_base ho0) hb) (fun _ h_ => by first | trivial | exact h_ | exact h_.1))
     clear BK684; clear HB; have HO691 := n0_; have BK684 := n1_; have HB := n2_; clear n0_ n1_ n2_; (try clear hb ho0); refine hK.out _ _ ⟨v687, v690, v693, m11_, (by rw [ha.out]; exact putSel_upk 6 hb_ rfl rfl rfl), blkA, belA, z_HO688, fun _ => (rF HO691), fun h0_ => absurd ((hoff 10 (by kernel_rfl)).symm.trans h0_) (by decide), fun h0_ => absurd ((hoff 11 (by kernel_rfl)).symm.trans h0_) (by decide)⟩
   refine steps_cons ?_ ?_
   · rintro b a w' ⟨v687, v690, v693, m11_, ha, Q_BK684, Q_HB, Q_HO688, Q_HO691, Q_HO694, Q_X11_⟩ hb_ hon hoff
     refine ⟨_, rfl, fun K hK => ?_⟩
     have e13 : a.tmps[13]? = some (v687) := by rw [ha]; exact putSel_on (e := (6, 13, v687)) 4 rfl rfl (hon 6 (by kernel_rfl)) rfl
     have e16 : a.tmps[16]? = some (v690) := by rw [ha]; exact putSel_on (e := (9, 16, v690)) 6 rfl rfl (hon 9 (by kernel_rfl)) rfl
     replace ha := ak ha; have BK684 := ak Q_BK684; have HB := ak Q_HB; have HO688 := ak (Q_HO688 (hon 6 (by kernel_rfl))); have HO691 := ak (Q_HO691 (hon 9 (by kernel_rfl))); obtain ⟨Ao16, co16, eo16⟩ := Kd.R_slice HO688.out; (first | subst eo16 | (injection eo16 with f1_ f2_ f3_; have f4_ := f1_.symm; have f5_ := f3_.symm; clear f1_ f2_ f3_; subst f4_; subst f5_))
     obtain ⟨Ao17, co17, eo17⟩ := Kd.R_slice HO691.out; (first | subst eo17 | (injection eo17 with f1_ f2_ f3_; have f4_ := f1_.symm; have f5_ := f3_.symm; clear f1_ f2_ f3_; subst f4_; subst f5_))
     refine goes_ Try.func96 (by kernel_rfl) rfl #[.slice Ao16 y686.length co16, .slice Ao17 t689.length co17] (by rfl) rfl rfl (by first | (simp only [List.map_toArray, List.map_cons, List.map_nil, Act.eval, Array.getD_eq_getD_getElem?, Option.getD_some, e13, e16]; done) | (simp only [List.map_toArray, List.map_cons, List.map_nil, Act.eval, Array.getD_eq_getD_getElem?, Option.getD_some, e13, e16]; rfl)) ?_
     with_reducible refine (spec_l01Join.calls k _ _ y686 _ _ t689 t692 _ ?side1 ?side2 ?side3 ?side4 A5.out).mono ?_
     (case side1 => exact cA ((Kd.R_reads' HO688.out).2.2))
     (case side2 => exact (Kd.R_reads' HO688.out).2.1)
     (case side3 => exact cA ((Kd.R_reads' HO691.out).2.2))
     (case side4 => exact (Kd.R_reads' HO691.out).2.1)
     rintro e w18 ⟨v693, rfl, ho0, hb⟩
     refine ⟨_, rfl, ?_⟩
     have HO694 := rL (Kd.R_new' (Kd.R_new' ho0 (Kd.R_lt (rF HO688))) (Kd.R_lt (rF HO691))); replace HO688 := ak (Kd.R_elder' (rF HO688) (Kd.R_base ho0) hb); replace HO691 := ak (Kd.R_elder' (rF HO691) (Kd.R_base ho0) hb); replace BK684 := bB BK684 hb; replace HB := bS hb; (try clear hb ho0); refine hK.out _ _ ⟨.slice Ao16 y686.length co16, .slice Ao17 t689.length co17, v693, m11_, (by rw [ha.out]; exact putSel_upk 7 hb_ rfl rfl rfl), blkA, belA, fun _ => (rF HO688), fun _ => (rF HO691), fun _ => (by (with_reducible repeat (first | apply Kd.R_alloc | apply Kd.R_drewN | apply Kd.R_drew)); first | exact Kd.R_mono HO694.out (fun _ hk => ⟨hk.1.2, hk.2⟩) | exact Kd.R_mono HO694.out (fun _ _ => trivial)), fun h0_ => absurd ((hoff 11 (by kernel_rfl)).symm.trans h0_) (by decide)⟩
   refine steps_cons ?_ ?_
   · rintro b a w' ⟨v687, v690, v693, m11_, ha, Q_BK684, Q_HB, Q_HO688, Q_HO691, Q_HO694, Q_X11_⟩ hb_ hon hoff
     refine ⟨_, rfl, fun K hK => ?_⟩
     have e17 : a.tmps[17]? = some (v693) := by rw [ha]; exact putSel_on (e := (10, 17, v693)) 7 rfl rfl (hon 10 (by kernel_rfl)) rfl
     replace ha := ak ha; have BK684 := ak Q_BK684; have HB := ak Q_HB; have HO688 := ak (Q_HO688 (hon 6 (by kernel_rfl))); have HO691 := ak (Q_HO691 (hon 9 (by kernel_rfl))); have HO694 := ak (Q_HO694 (hon 10 (by kernel_rfl))); refine value_ (w1 := w') (v := v693) (by rfl) rfl ?_ ?_
     · go_simp
       (try simp only [i64_w])
       try rfl
     refine hK.out _ _ ⟨v687, v690, v693, (v693), (by rw [ha.out]; exact putSel_upk 8 hb_ rfl rfl rfl), Q_BK684, Q_HB, Q_HO688, Q_HO691, Q_HO694, fun _ => rfl⟩
   exact steps_nil
 rintro b a w18 hall ⟨v687, v690, v693, m11_, ha, Q_BK684, Q_HB, Q_HO688, Q_HO691, Q_HO694, Q_X11_⟩
 clear BK684 HB; have hb1_ := hall 1 (by kernel_rfl); have hb2_ := hall 2 (by kernel_rfl); have hb4_ := hall 4 (by kernel_rfl); have hb5_ := hall 5 (by kernel_rfl); have hb6_ := hall 6 (by kernel_rfl); have hb8_ := hall 8 (by kernel_rfl); have hb9_ := hall 9 (by kernel_rfl); have hb10_ := hall 10 (by kernel_rfl); have hb11_ := hall 11 (by kernel_rfl); subst ha; obtain rfl := Q_X11_ hb11_; simp only [putSel, hb1_, hb2_, hb4_, hb5_, hb6_, hb8_, hb9_, hb10_, hb11_, if_true, Act.put, sa, sb, sc]
 have BK684 := ak Q_BK684; clear Q_BK684; have HB := ak Q_HB; clear Q_HB; have HO688 := ak (Q_HO688 hb6_); clear Q_HO688; have HO691 := ak (Q_HO691 hb9_); clear Q_HO691; have HO694 := ak (Q_HO694 hb10_); clear Q_HO694; clear hall hb1_ hb2_ hb4_ hb5_ hb6_ hb8_ hb9_ hb10_ hb11_; try go_wp2
 replace HO688 := ak (Kd.R_drew HO688.out); replace HO691 := ak (Kd.R_drew HO691.out); replace HO694 := ak (Kd.R_drew HO694.out); replace BK684 := ak (blk_drew BK684.out); replace HB := ak (below_drew1 HB.out); obtain ⟨Ao20, co20, eo20⟩ := Kd.R_slice HO694.out; (first | subst eo20 | (injection eo20 with f1_ f2_ f3_; have f4_ := f1_.symm; have f5_ := f3_.symm; clear f1_ f2_ f3_; subst f4_; subst f5_))
 refine start_ (n := 8) (S := fun w' => w'.cell? ⟨gb684, 0, none⟩ = some (.int .i64 a0_0) ∧ w'.cell? ⟨gb684, 1, none⟩ = some (.int .i64 a0_1) ∧ w'.cell? ⟨gb684, 2, none⟩ = some (.slice A0_2 l0_2.length c0_2) ∧ w'.cell? ⟨gb684, 3, none⟩ = some (.slice A0_3 l0_3.length c0_3) ∧ w'.cell? ⟨gb684, 4, none⟩ = some (.int .i64 a0_4)) (ds := []) #[false, false, false, false, false, false, false, false] (by kernel_rfl) rfl rfl ⟨(blk_cell BK684.out 0).trans rfl, (blk_cell BK684.out 1).trans rfl, (blk_cell BK684.out 2).trans rfl, (blk_cell BK684.out 3).trans rfl, (blk_cell BK684.out 4).trans rfl⟩ (fun hHeld => ?_); refine with_tabW spec_EncodeJob.tab4 spec_EncodeJob.bits4 (fun HT_ HW_ => ?_)
 generalize w18.drew = w19 at HO688 HO691 HO694 BK684 HB hHeld ⊢
 refine pure_ (i := 0) (N := some 18) (v := ?_) (a' := ?_) #[true, false, false, false, false, false, false, false] rfl rfl (any_of HT_.out (by kernel_rfl)) (fun _ _ _ h => h) (Or.inl ⟨by rfl, ?_⟩) ?_ ?_
 rotate_left
 · intro w'; go_simp
   with_reducible rfl
 rotate_left
 · simp only [Act.put, sa, sb, sc, i64_w, i32_w]
   rfl
 refine pure_ (i := 1) (N := some 19) (v := ?_) (a' := ?_) #[true, true, false, false, false, false, false, false] rfl rfl (any_of HT_.out (by kernel_rfl)) (fun _ _ _ h => h) (Or.inl ⟨by rfl, ?_⟩) ?_ ?_
 rotate_left
 · intro w'; go_simp
   with_reducible rfl
 rotate_left
 · simp only [Act.put, sa, sb, sc, i64_w, i32_w]
   rfl
 refine pure_ (i := 4) (N := some 22) (v := ?_) (a' := ?_) #[true, true, false, false, true, false, false, false] rfl rfl (any_of HT_.out (by kernel_rfl)) (fun _ _ _ h => h) (Or.inl ⟨by rfl, ?_⟩) ?_ ?_
 rotate_left
 · intro w'; go_simp
   with_reducible rfl
 rotate_left
 · simp only [Act.put, sa, sb, sc, i64_w, i32_w]
   rfl
 refine take_ (i := 2) (N := some 20) (v := ?_) (a' := ?_) #[true, true, true, false, true, false, false, false] rfl rfl (take_ofW HT_.out HW_.out (by kernel_rfl)) (fun _ _ _ h => h) (Or.inl ⟨by rfl, ?_⟩) hHeld ?_ ?_
 rotate_left
 · rintro w' ⟨s0, s1, s2, s3, s4⟩
   go_simp
   with_reducible rfl
 rotate_left
 · simp only [Act.put, sa, sb, sc, i64_w, i32_w]
   rfl
 refine take_ (i := 5) (N := some 23) (v := ?_) (a' := ?_) #[true, true, true, false, true, true, false, false] rfl rfl (take_ofW HT_.out HW_.out (by kernel_rfl)) (fun _ _ _ h => h) (Or.inl ⟨by rfl, ?_⟩) hHeld ?_ ?_
 rotate_left
 · rintro w' ⟨s0, s1, s2, s3, s4⟩
   go_simp
   with_reducible rfl
 rotate_left
 · simp only [Act.put, sa, sb, sc, i64_w, i32_w]
   rfl
 refine one_ (i := 3) (N := some 21) #[true, true, true, true, true, true, false, false] rfl rfl (one_of HT_.out (by kernel_rfl)) (by decide) (fun K hK => ?_)
 refine goes_ Try.func117 (by kernel_rfl) rfl #[.slice Ao20 t692.length co20, .slice A0_2 l0_2.length c0_2] (by rfl) rfl rfl xq29 ?_
 with_reducible refine (spec_l10PutList.calls k _ _ t692 _ _ l0_2 t695 _ ?side1 ?side2 ?side3 ?side4 A6.out).mono ?_
 (case side1 => exact cA ((Kd.R_reads' HO694.out).2.2))
 (case side2 => exact (Kd.R_reads' HO694.out).2.1)
 (case side3 => exact cA (Kd.C_below HR0_2.out HB.out))
 (case side4 => exact HC0_2.out)
 rintro e w21 ⟨v696, rfl, ho0, hb⟩
 refine ⟨_, rfl, ?_⟩
 have HO697 := rL (Kd.R_new' (Kd.R_new' (Kd.R_new' ho0 (Kd.R_lt (rF HO688))) (Kd.R_lt (rF HO691))) (Kd.R_lt (rF HO694))); replace HO688 := ak (Kd.R_elder' (rF HO688) (Kd.R_base ho0) hb); replace HO691 := ak (Kd.R_elder' (rF HO691) (Kd.R_base ho0) hb); replace HO694 := ak (Kd.R_elder' (rF HO694) (Kd.R_base ho0) hb); replace BK684 := bB BK684 hb; replace HB := bS hb; (try clear hb ho0); obtain ⟨Ao22, co22, eo22⟩ := Kd.R_slice HO697.out; (first | subst eo22 | (injection eo22 with f1_ f2_ f3_; have f4_ := f1_.symm; have f5_ := f3_.symm; clear f1_ f2_ f3_; subst f4_; subst f5_))
 refine hK.out _ _ ⟨(blk_cell BK684.out 0).trans rfl, (blk_cell BK684.out 1).trans rfl, (blk_cell BK684.out 2).trans rfl, (blk_cell BK684.out 3).trans rfl, (blk_cell BK684.out 4).trans rfl⟩ (fun hHeld => ?_)
 clear hK K; refine norm_ (a' := ?_) ?_ ?_
 rotate_left
 · show Act.put _ (some 21) _ = _
   simp only [Act.put, sa, sb, sc, i64_w, i32_w]
   rfl
 refine one_ (i := 6) (N := some 24) #[true, true, true, true, true, true, true, false] rfl rfl (one_of HT_.out (by kernel_rfl)) (by decide) (fun K hK => ?_)
 refine goes_ Try.func117 (by kernel_rfl) rfl #[.slice Ao22 t695.length co22, .slice A0_3 l0_3.length c0_3] (by rfl) rfl rfl xq29 ?_
 with_reducible refine (spec_l10PutList.calls k _ _ t695 _ _ l0_3 t698 _ ?side1 ?side2 ?side3 ?side4 A7.out).mono ?_
 (case side1 => exact cA ((Kd.R_reads' HO697.out).2.2))
 (case side2 => exact (Kd.R_reads' HO697.out).2.1)
 (case side3 => exact cA (Kd.C_below HR0_3.out HB.out))
 (case side4 => exact HC0_3.out)
 rintro e w23 ⟨v699, rfl, ho0, hb⟩
 refine ⟨_, rfl, ?_⟩
 have HO700 := rL (Kd.R_new' (Kd.R_new' (Kd.R_new' (Kd.R_new' ho0 (Kd.R_lt (rF HO688))) (Kd.R_lt (rF HO691))) (Kd.R_lt (rF HO694))) (Kd.R_lt (rF HO697))); replace HO688 := ak (Kd.R_elder' (rF HO688) (Kd.R_base ho0) hb); replace HO691 := ak (Kd.R_elder' (rF HO691) (Kd.R_base ho0) hb); replace HO694 := ak (Kd.R_elder' (rF HO694) (Kd.R_base ho0) hb); replace HO697 := ak (Kd.R_elder' (rF HO697) (Kd.R_base ho0) hb); replace BK684 := bB BK684 hb; replace HB := bS hb; (try clear hb ho0); refine hK.out _ _ ⟨(blk_cell BK684.out 0).trans rfl, (blk_cell BK684.out 1).trans rfl, (blk_cell BK684.out 2).trans rfl, (blk_cell BK684.out 3).trans rfl, (blk_cell BK684.out 4).trans rfl⟩ (fun hHeld => ?_)
 clear hK K; refine norm_ (a' := ?_) ?_ ?_
 rotate_left
 · show Act.put _ (some 24) _ = _
   simp only [Act.put, sa, sb, sc, i64_w, i32_w]
   rfl
 refine pure_ (i := 7) (N := some 2) (v := ?_) (a' := ?_) #[true, true, true, true, true, true, true, true] rfl rfl (any_of HT_.out (by kernel_rfl)) (fun _ _ _ h => h) (Or.inl ⟨by rfl, ?_⟩) ?_ ?_
 rotate_left
 · intro w'; go_simp
   with_reducible rfl
 rotate_left
 · simp only [Act.put, sa, sb, sc, i64_w, i32_w]
   rfl
 refine done_ (done_of HT_.out (by kernel_rfl)) ?_
 try go_wp2
 go_ret
 exact ⟨_, xq6, by (with_reducible repeat (first | apply Kd.R_alloc | apply Kd.R_drewN | apply Kd.R_drew)); exact Kd.R_mono HO700.out (fun _ hk => trivial), belA⟩

def spec_DrawDecodeJob.j0 : Nat → List Int → Bool → List Int → Int → Int → Option (List Int)
 | 0, _, _, _, _, _ => none
 | k + 1, x4, x16, x705000, x705001, x705002 => if x16 = true then ((spec_l01Below.f x705000 x705001 x705002 3).bind fun bt720 => (if bt720.1 = 0 then (if x4.length < 140737488355328 then (some (x4 ++ [0])) else (none)) else (if bt720.1 = 1 then (if 0 ≤ (wrap64 ((x4.length : Int) - 1)) then (if (wrap64 ((x4.length : Int) - 1)) ≤ (x4.length : Int) then (some (x4.take ((wrap64 ((x4.length : Int) - 1)) : Int).toNat)) else (none)) else (none)) else (if bt720.1 = 2 then ((spec_l01Below.f x705000 bt720.2.1 bt720.2.2 (x4.length : Int)).bind fun bt729 => ((spec_l01Below.f x705000 bt729.2.1 bt729.2.2 256).bind fun bt732 => (if 0 ≤ bt729.1 then (if bt729.1 < (x4.length : Int) then (some (x4.set (bt729.1 : Int).toNat ((bt732.1) % 256))) else (none)) else (none)))) else (some x4))))) else (some x4)
def spec_DrawDecodeJob.f (k : Nat) (l0 : List Int) : Option (List Int) := (spec_l01New.f k l0).bind fun bt701 => ((spec_l10DrawOne.f k l0).bind fun bt705 => ((spec_EncodeJob.f k bt705.1 bt705.2.1 bt705.2.2.1 bt705.2.2.2.1 bt705.2.2.2.2).bind fun t714 => ((spec_l01Once.f bt701.1 bt701.2.1 bt701.2.2 4).bind fun bt717 => (if bt717.1 = true then (spec_DrawDecodeJob.j0 k t714 (decide ((t714.length : Int) > 0)) bt701.1 bt717.2.1 bt717.2.2) else (spec_DrawDecodeJob.j0 k t714 false bt701.1 bt717.2.1 bt717.2.2)))))
theorem spec_DrawDecodeJob.mono_l : ∀ k, (∀ y0 y1 y2 y3 y4, LeO (spec_DrawDecodeJob.j0 k y0 y1 y2 y3 y4) (spec_DrawDecodeJob.j0 (k + 1) y0 y1 y2 y3 y4))
 | 0 => fun _ _ _ _ _ r h => by simp [spec_DrawDecodeJob.j0] at h
 | k + 1 => by
  have ih0 := spec_DrawDecodeJob.mono_l k
  · intro y0 y1 y2 y3 y4; unfold spec_DrawDecodeJob.j0; exact xq84
theorem spec_DrawDecodeJob.mono : ∀ a0 k, LeO (spec_DrawDecodeJob.f k a0) (spec_DrawDecodeJob.f (k + 1) a0) := by
 intro a0 k; have ih0 := spec_DrawDecodeJob.mono_l k
 unfold spec_DrawDecodeJob.f
 exact xq84
theorem spec_DrawDecodeJob.calls (k : Nat) (A0 : Option Addr) (c0 : Nat) (l0 : List Int) (r : List Int) (w : World) (hr0 : Kd.C (Kd.int .u8) w A0 l0.length l0) (hc0 : l0.length ≤ c0) (h : spec_DrawDecodeJob.f k l0 = some r) :
 Calls Try.prog 49 #[.slice A0 l0.length c0] w fun e w' => ∃ v0_ : Value, e = .returned (v0_) ∧ Kd.R (Kd.int .u8) 5 w' w.heap.size (fun _ => True) v0_ r ∧ Below w.heap.size w w' := by
 have HR0 := ak hr0; have HC0 := ak hc0; clear hr0 hc0; have HB := ak (Below.refl w.heap.size w); have H : ((spec_l01New.f k l0).bind fun bt701 => ((spec_l10DrawOne.f k l0).bind fun bt705 => ((spec_EncodeJob.f k bt705.1 bt705.2.1 bt705.2.2.1 bt705.2.2.2.1 bt705.2.2.2.2).bind fun t714 => ((spec_l01Once.f bt701.1 bt701.2.1 bt701.2.2 4).bind fun bt717 => (if bt717.1 = true then (spec_DrawDecodeJob.j0 k t714 (decide ((t714.length : Int) > 0)) bt701.1 bt717.2.1 bt717.2.2) else (spec_DrawDecodeJob.j0 k t714 false bt701.1 bt717.2.1 bt717.2.2)))))) = some r := h; clear h; replace H := Option.bind_eq_some_iff.mp H; obtain ⟨⟨t701, t702, t703⟩, A20, H⟩ := H; (try dsimp only at H); have A2 := ak A20; clear A20; replace H := Option.bind_eq_some_iff.mp H; obtain ⟨⟨t705, t706, t707, t710, t713⟩, A30, H⟩ := H; (try dsimp only at H); have A3 := ak A30; clear A30; replace H := Option.bind_eq_some_iff.mp H; obtain ⟨t714, A40, H⟩ := H; (try dsimp only at H); have A4 := ak A40; clear A40; have HC5 := ak H; clear H; go_enter Try.func49, Try.ntmps49
 go_upto_region 3 with (first | ((with_reducible refine gate_callee (f := 58) rfl ?_); refine goB 6 Try.func58 #[.slice A0 l0.length c0] rfl ?_; (with_reducible refine (spec_l01New.calls k _ _ l0 t701 t702 t703 w _ ?side1 ?side2 ?side3 A2.out).mono ?_); (case side1 => repeat (first | (with_reducible first | exact HB.out | apply below_alloc | apply pw_below_drewN | apply below_drew1) | exact HB.out)); (case side2 => exact HR0.out); (case side3 => exact HC0.out); rintro e w6 ⟨g704, rfl, hi, hb, hb2⟩; refine ⟨_, rfl, ?_⟩; have HI704 := ak hi; replace HB := ak hb; (try clear hb hb2 hi)) | ((with_reducible refine gate_callee (f := 81) rfl ?_); refine goB 8 Try.func81 #[.slice A0 l0.length c0] rfl ?_; (with_reducible refine (spec_l10DrawOne.calls k _ _ l0 t705 t706 t707 t710 t713 _ ?side1 ?side2 A3.out).mono ?_); (case side1 => exact cA (Kd.C_below HR0.out HB.out)); (case side2 => exact HC0.out); rintro e w7 ⟨v708, v711, rfl, ho0, ho1, hb⟩; refine ⟨_, rfl, ?_⟩; have HO709 := ak (Kd.R_lower ho0 (below_size xq17)); have HO712 := ak (Kd.R_lower ho1 (below_size xq17)); replace HB := ak (below_step xq17 hb); replace HI704 := ak (IsS121.below xq25 hb); (try clear hb ho0 ho1); obtain ⟨Ao8, co8, eo8⟩ := Kd.R_slice HO709.out; subst eo8; obtain ⟨Ao9, co9, eo9⟩ := Kd.R_slice HO712.out; subst eo9) | ((with_reducible refine gate_callee (f := 89) rfl ?_); refine goB 9 Try.func89 #[.agg #[.int .i64 t705, .int .i64 t706, .slice Ao8 t707.length co8, .slice Ao9 t710.length co9, .int .i64 t713]] rfl ?_; (with_reducible refine (spec_EncodeJob.calls k t705 t706 _ _ t707 _ _ t710 t713 t714 _ ?side1 ?side2 ?side3 ?side4 A4.out).mono ?_); (case side1 => exact cA ((Kd.R_reads' HO709.out).2.2)); (case side2 => exact (Kd.R_reads' HO709.out).2.1); (case side3 => exact cA ((Kd.R_reads' HO712.out).2.2)); (case side4 => exact (Kd.R_reads' HO712.out).2.1); rintro e w10 ⟨v715, rfl, ho0, hb⟩; refine ⟨_, rfl, ?_⟩; have HO716 := ak (Kd.R_lower ho0 (below_size xq17)); replace HO709 := ak (Kd.R_below (rF HO709) hb); replace HO712 := ak (Kd.R_below (rF HO712) hb); replace HB := ak (below_step xq17 hb); replace HI704 := ak (IsS121.below xq25 hb); (try clear hb ho0)))
 (try simp only [Act.put, sa, sb, sc])
 go_cut [16] (fun v16 wc => ∃ (kq : Nat) (x16_4 : Bool) (x705001_4 : Int) (x705002_4 : Int), v16 = .bool x16_4 ∧ Aside0 (spec_DrawDecodeJob.j0 kq t714 x16_4 t701 x705001_4 x705002_4 = some r) ∧ Aside0 (kq ≤ k) ∧ Aside0 (Kd.R (Kd.int .u8) 5 wc w.heap.size (fun _ => True) v715 t714) ∧ Aside0 (IsS121 w wc g704 t701 x705001_4 x705002_4) ∧ Aside0 (Below w.heap.size w wc))
 case first =>
  have H := HC5.out; clear HC5; replace H := Option.bind_eq_some_iff.mp H; obtain ⟨⟨t717, t718, t719⟩, A110, H⟩ := H; (try dsimp only at H); have A11 := ak A110; clear A110
  by_cases c12 : t717 = true; rotate_left
  · replace c12 := Bool.eq_false_iff.mpr c12; subst c12; have H1 : (spec_DrawDecodeJob.j0 k t714 false t701 t718 t719) = some r := by rw [if_neg (show ¬ (false = true) by decide)] at H; exact H
    clear H; have H := H1; clear H1; have H' := ak H; clear H; go_wp2_with (first | ((with_reducible refine gate_callee (f := 90) rfl ?_); refine goB 11 Try.func90 #[.pointer (some ⟨g704, 0, none⟩), .int .i64 4] rfl ?_; (with_reducible refine (spec_l01Once.calls g704 t701 t702 t703 4 false t718 t719 w _ ?side1 ?side2 A11.out).mono ?_); (case side1 => exact xq25); (case side2 => exact xq17); rintro e w15 ⟨rfl, hi, hb, hk⟩; refine ⟨_, rfl, ?_⟩; replace HO709 := ak (Kd.R_mono (Kd.R_keep (IsS121.apart (show IsS121 w _ g704 t701 t702 t703 from by repeat (first | (with_reducible first | exact HI704.out | apply IsS121.alloc | apply IsS121.drewN | apply IsS121.drew | apply IsS121.set_1 | apply IsS121.set_2) | exact HI704.out)) (rF HO709) (by decide)) hk (fun _ h => h.2)) (fun _ h => h.1)); replace HO712 := ak (Kd.R_mono (Kd.R_keep (IsS121.apart (show IsS121 w _ g704 t701 t702 t703 from by repeat (first | (with_reducible first | exact HI704.out | apply IsS121.alloc | apply IsS121.drewN | apply IsS121.drew | apply IsS121.set_1 | apply IsS121.set_2) | exact HI704.out)) (rF HO712) (by decide)) hk (fun _ h => h.2)) (fun _ h => h.1)); replace HO716 := ak (Kd.R_mono (Kd.R_keep (IsS121.apart (show IsS121 w _ g704 t701 t702 t703 from by repeat (first | (with_reducible first | exact HI704.out | apply IsS121.alloc | apply IsS121.drewN | apply IsS121.drew | apply IsS121.set_1 | apply IsS121.set_2) | exact HI704.out)) (rF HO716) (by decide)) hk (fun _ h => h.2)) (fun _ h => h.1)); replace HB := ak hb; replace HI704 := ak hi; (try clear hb hk hi)))
    go_meet
    case rel => exact ⟨_, (false), (t718), (t719), eqA, H', ⟨xq12⟩, ⟨rA HO716⟩, ⟨xq25⟩, ⟨xq17⟩⟩
  subst c12; have H1 : (spec_DrawDecodeJob.j0 k t714 (decide ((t714.length : Int) > 0)) t701 t718 t719) = some r := by rw [if_pos rfl] at H; exact H
  clear H; have H := H1; clear H1; have H' := ak H; clear H; go_wp2_with (first | ((with_reducible refine gate_callee (f := 90) rfl ?_); refine goB 11 Try.func90 #[.pointer (some ⟨g704, 0, none⟩), .int .i64 4] rfl ?_; (with_reducible refine (spec_l01Once.calls g704 t701 t702 t703 4 true t718 t719 w _ ?side1 ?side2 A11.out).mono ?_); (case side1 => exact xq25); (case side2 => exact xq17); rintro e w13 ⟨rfl, hi, hb, hk⟩; refine ⟨_, rfl, ?_⟩; replace HO709 := ak (Kd.R_mono (Kd.R_keep (IsS121.apart (show IsS121 w _ g704 t701 t702 t703 from by repeat (first | (with_reducible first | exact HI704.out | apply IsS121.alloc | apply IsS121.drewN | apply IsS121.drew | apply IsS121.set_1 | apply IsS121.set_2) | exact HI704.out)) (rF HO709) (by decide)) hk (fun _ h => h.2)) (fun _ h => h.1)); replace HO712 := ak (Kd.R_mono (Kd.R_keep (IsS121.apart (show IsS121 w _ g704 t701 t702 t703 from by repeat (first | (with_reducible first | exact HI704.out | apply IsS121.alloc | apply IsS121.drewN | apply IsS121.drew | apply IsS121.set_1 | apply IsS121.set_2) | exact HI704.out)) (rF HO712) (by decide)) hk (fun _ h => h.2)) (fun _ h => h.1)); replace HO716 := ak (Kd.R_mono (Kd.R_keep (IsS121.apart (show IsS121 w _ g704 t701 t702 t703 from by repeat (first | (with_reducible first | exact HI704.out | apply IsS121.alloc | apply IsS121.drewN | apply IsS121.drew | apply IsS121.set_1 | apply IsS121.set_2) | exact HI704.out)) (rF HO716) (by decide)) hk (fun _ h => h.2)) (fun _ h => h.1)); replace HB := ak hb; replace HI704 := ak hi; (try clear hb hk hi); obtain ⟨Ao14, co14, eo14⟩ := Kd.R_slice HO716.out; subst eo14))
  go_meet
  case rel => exact ⟨_, (decide ((t714.length : Int) > 0)), (t718), (t719), eqA, H', ⟨xq12⟩, ⟨rA HO716⟩, ⟨xq25⟩, ⟨xq17⟩⟩
 case rest =>
  clear HC5; obtain ⟨kq, x16_4, x705001_4, x705002_4, rfl, HA, HJ4, HO_4, HI704, HB⟩ := hcut
  cases kq with
  | zero => exact absurd HA.out (by simp [spec_DrawDecodeJob.j0])
  | succ kj4 =>
   have H := HA.out; clear HA; simp only [spec_DrawDecodeJob.j0] at H
   by_cases c16 : x16_4 = true; rotate_left
   · replace c16 := Bool.eq_false_iff.mpr c16; subst c16; have H1 : (some t714) = some r := by rw [if_neg (show ¬ (false = true) by decide)] at H; exact H
     clear H; have H := H1; clear H1; obtain rfl := Option.some.inj H; go_wp2
     go_ret
     exact ⟨_, xq6, xq62, xq17⟩
   subst c16; have H1 : ((spec_l01Below.f t701 x705001_4 x705002_4 3).bind fun bt720 => (if bt720.1 = 0 then (if t714.length < 140737488355328 then (some (t714 ++ [0])) else (none)) else (if bt720.1 = 1 then (if 0 ≤ (wrap64 ((t714.length : Int) - 1)) then (if (wrap64 ((t714.length : Int) - 1)) ≤ (t714.length : Int) then (some (t714.take ((wrap64 ((t714.length : Int) - 1)) : Int).toNat)) else (none)) else (none)) else (if bt720.1 = 2 then ((spec_l01Below.f t701 bt720.2.1 bt720.2.2 (t714.length : Int)).bind fun bt729 => ((spec_l01Below.f t701 bt729.2.1 bt729.2.2 256).bind fun bt732 => (if 0 ≤ bt729.1 then (if bt729.1 < (t714.length : Int) then (some (t714.set (bt729.1 : Int).toNat ((bt732.1) % 256))) else (none)) else (none)))) else (some t714))))) = some r := by rw [if_pos rfl] at H; exact H
   clear H; have H := H1; clear H1; replace H := Option.bind_eq_some_iff.mp H; obtain ⟨⟨t720, t721, t722⟩, A170, H⟩ := H; (try dsimp only at H); have A17 := ak A170; clear A170
   by_cases c18 : t720 = 0
   · rw [if_pos c18] at H; have c18b0 : (t720 == 0) = true := beq_iff_eq.mpr c18; have c18b1 : (t720 != 0) = false := bne_eq_false_iff_eq.mpr c18; clear c18
     by_cases c19 : t714.length < 140737488355328; rotate_left
     · rw [if_neg c19] at H; exact absurd H (by simp)
     rw [if_pos c19] at H; have LMc19 := ak c19; clear c19; obtain ⟨y723, hyq⟩ : ∃ y_ : List Int, y_ = (t714 ++ [0]) := ⟨_, rfl⟩; replace H : (some y723) = some r := by first | (rw [hyq]; with_reducible exact H) | (have H2_ := (Option.bind_some _ _).symm.trans H; rw [hyq]; with_reducible exact H2_) | (have H2_ := (Option.bind_some _ _).symm.trans H; with_reducible exact H2_) | with_reducible exact H | (rw [hyq]; exact H) | exact H
     have Ny723 := ak hyq; clear hyq; obtain rfl := Option.some.inj H; go_wp2_with (first | ((with_reducible refine gate_callee (f := 91) rfl ?_); refine goB 18 Try.func91 #[.pointer (some ⟨g704, 0, none⟩), .int .i64 3] rfl ?_; (with_reducible refine (spec_l01Below.calls g704 t701 x705001_4 x705002_4 3 t720 t721 t722 w _ ?side1 ?side2 A17.out).mono ?_); (case side1 => exact xq25); (case side2 => exact xq17); rintro e w20 ⟨rfl, hi, hb, hk⟩; refine ⟨_, rfl, ?_⟩; replace HO_4 := ak (Kd.R_mono (Kd.R_keep (IsS121.apart (show IsS121 w _ g704 t701 x705001_4 x705002_4 from by repeat (first | (with_reducible first | exact HI704.out | apply IsS121.alloc | apply IsS121.drewN | apply IsS121.drew | apply IsS121.set_1 | apply IsS121.set_2) | exact HI704.out)) (rF HO_4) (by decide)) hk (fun _ h => h.2)) (fun _ h => h.1)); replace HB := ak hb; replace HI704 := ak hi; (try clear hb hk hi)) | ((with_reducible refine gate_builtin (b := .append) (xs := #[.tmp 21, .tmp 22]) rfl ?_); (try (refine gate_guard (by rfl) ?_; dsimp only)); at_builtin; refine Kd.R_append (Kd.int .u8) (w0 := w) w.heap.size rfl (.tmp 21) (.tmp 22) 22 5 (.int .u8 0) 1 rfl Try.underlying22 info5 rfl (by decide) (by omega) v715 t714 0 [.int .u8 0] (fun _ => True) (fun _ => False) rfl rfl ?aP (fun _ hk => hk.elim) ?aF ?aO ?aB ?aS ?aL ?_; (case aP => exact rfl); (case aB => exact xq17); (case aF => exact (fun _ _ => trivial)); (case aO => exact (rF HO_4)); (case aS => exact (below_size xq17)); (case aL => have := LMc19.out; omega); intro v724 w21 ho hb hg hat; rw [← Ny723.out] at ho; have HO725 := ak ho; replace HI704 := ak (IsS121.grown xq85 hg (IsS121.own_ne HI704.out HO_4.out (by decide))); replace HB := ak hb; clear HO_4; clear ho hb hg hat))
     go_ret
     exact ⟨_, xq6, by (with_reducible repeat (first | apply Kd.R_alloc | apply Kd.R_drewN | apply Kd.R_drew)); exact HO725.out, xq17⟩
   rw [if_neg c18] at H; have c18b0 : (t720 == 0) = false := beq_eq_false_iff_ne.mpr c18; have c18b1 : (t720 != 0) = true := bne_iff_ne.mpr c18
   by_cases c22 : t720 = 1
   · rw [if_pos c22] at H; have c22b0 : (t720 == 1) = true := beq_iff_eq.mpr c22; have c22b1 : (t720 != 1) = false := bne_eq_false_iff_eq.mpr c22; clear c22; obtain ⟨ji23, hji23⟩ : ∃ j_ : Int, (wrap64 ((t714.length : Int) - 1)) = j_ := ⟨_, rfl⟩; replace H : (if 0 ≤ (ji23) then (if (ji23) ≤ (t714.length : Int) then (some (t714.take ((ji23) : Int).toNat)) else (none)) else (none)) = some r := by first | (rw [hji23] at H; exact H) | (simp only [hji23] at H ⊢; exact H)
     (try rw [hji23] at A17)
     have hji23w : (IntKind.i64.wrap ((t714.length : Int) - 1)) = ji23 := (i64_w _).trans hji23
     by_cases c24 : 0 ≤ (ji23); rotate_left
     · rw [if_neg c24] at H; exact absurd H (by simp)
     rw [if_pos c24] at H; have c24b0 := eq_true c24; have c24b1 : decide (0 ≤ (ji23)) = true := decide_eq_true c24; clear c24
     by_cases c25 : (ji23) ≤ (t714.length : Int); rotate_left
     · rw [if_neg c25] at H; exact absurd H (by simp)
     rw [if_pos c25] at H; have c25b0 := eq_true c25; have c25b1 : decide ((ji23) ≤ (t714.length : Int)) = true := decide_eq_true c25; clear c25; obtain ⟨y726, hyq⟩ : ∃ y_ : List Int, y_ = (t714.take ((ji23) : Int).toNat) := ⟨_, rfl⟩; replace H : (some y726) = some r := by first | (rw [hyq]; with_reducible exact H) | (have H2_ := (Option.bind_some _ _).symm.trans H; rw [hyq]; with_reducible exact H2_) | (have H2_ := (Option.bind_some _ _).symm.trans H; with_reducible exact H2_) | with_reducible exact H | (rw [hyq]; exact H) | exact H
     have Ny726 := ak hyq; clear hyq; obtain rfl := Option.some.inj H; go_wp2_with (first | ((with_reducible refine gate_callee (f := 91) rfl ?_); refine goB 18 Try.func91 #[.pointer (some ⟨g704, 0, none⟩), .int .i64 3] rfl ?_; (with_reducible refine (spec_l01Below.calls g704 t701 x705001_4 x705002_4 3 t720 t721 t722 w _ ?side1 ?side2 A17.out).mono ?_); (case side1 => exact xq25); (case side2 => exact xq17); rintro e w26 ⟨rfl, hi, hb, hk⟩; refine ⟨_, rfl, ?_⟩; replace HO_4 := ak (Kd.R_mono (Kd.R_keep (IsS121.apart (show IsS121 w _ g704 t701 x705001_4 x705002_4 from by repeat (first | (with_reducible first | exact HI704.out | apply IsS121.alloc | apply IsS121.drewN | apply IsS121.drew | apply IsS121.set_1 | apply IsS121.set_2) | exact HI704.out)) (rF HO_4) (by decide)) hk (fun _ h => h.2)) (fun _ h => h.1)); replace HB := ak hb; replace HI704 := ak hi; (try clear hb hk hi); obtain ⟨Ao27, co27, eo27⟩ := Kd.R_slice HO_4.out; subst eo27; have q28 : ((ji23) : Int) ≤ ((t714.length : Int) : Int) := odA; obtain ⟨i028, hi028, _, hsz28, _⟩ := info_parts info5; have hcut28 := cut_to (P := Try.prog) 22 5 .i64 Try.underlying22 hi028 Ao27 t714.length co27 (ji23) (odA) q28 (Kd.R_reads' HO_4.out).2.1; have hr28 := Kd.R_take (m := ((ji23) : Int).toNat) HO_4.out (by omega); have hy28 : y726.length = ((ji23) : Int).toNat := (by rw [Ny726.out, List.length_take]; omega); rw [← Ny726.out] at hr28; rw [← hy28] at hr28 hcut28; clear hy28 hi028 hsz28 HO_4; have HO728 := ak hr28; clear hr28; replace q28 := eq_true q28))
     go_ret
     exact ⟨_, by first | rfl | (simp [errW_none, errW_some] <;> rfl) | (simp only [← hji23]; first | rfl | (simp [errW_none, errW_some] <;> rfl)) | (simp [*, errW_none, errW_some] <;> rfl) | (simp [wrap64]; done) | (simp [*, wrap64]; done), by (with_reducible repeat (first | apply Kd.R_alloc | apply Kd.R_drewN | apply Kd.R_drew)); exact HO728.out, xq17⟩
   rw [if_neg c22] at H; have c22b0 : (t720 == 1) = false := beq_eq_false_iff_ne.mpr c22; have c22b1 : (t720 != 1) = true := bne_iff_ne.mpr c22
   by_cases c29 : t720 = 2; rotate_left
   · rw [if_neg c29] at H; have c29b0 : (t720 == 2) = false := beq_eq_false_iff_ne.mpr c29; have c29b1 : (t720 != 2) = true := bne_iff_ne.mpr c29; obtain rfl := Option.some.inj H; go_wp2_with (first | ((with_reducible refine gate_callee (f := 91) rfl ?_); refine goB 18 Try.func91 #[.pointer (some ⟨g704, 0, none⟩), .int .i64 3] rfl ?_; (with_reducible refine (spec_l01Below.calls g704 t701 x705001_4 x705002_4 3 t720 t721 t722 w _ ?side1 ?side2 A17.out).mono ?_); (case side1 => exact xq25); (case side2 => exact xq17); rintro e w41 ⟨rfl, hi, hb, hk⟩; refine ⟨_, rfl, ?_⟩; replace HO_4 := ak (Kd.R_mono (Kd.R_keep (IsS121.apart (show IsS121 w _ g704 t701 x705001_4 x705002_4 from by repeat (first | (with_reducible first | exact HI704.out | apply IsS121.alloc | apply IsS121.drewN | apply IsS121.drew | apply IsS121.set_1 | apply IsS121.set_2) | exact HI704.out)) (rF HO_4) (by decide)) hk (fun _ h => h.2)) (fun _ h => h.1)); replace HB := ak hb; replace HI704 := ak hi; (try clear hb hk hi)))
     go_ret
     exact ⟨_, xq6, xq62, xq17⟩
   rw [if_pos c29] at H; have c29b0 : (t720 == 2) = true := beq_iff_eq.mpr c29; have c29b1 : (t720 != 2) = false := bne_eq_false_iff_eq.mpr c29; clear c29; replace H := Option.bind_eq_some_iff.mp H; obtain ⟨⟨t729, t730, t731⟩, A300, H⟩ := H; (try dsimp only at H); have A30 := ak A300; clear A300; replace H := Option.bind_eq_some_iff.mp H; obtain ⟨⟨t732, t733, t734⟩, A310, H⟩ := H; (try dsimp only at H); have A31 := ak A310; clear A310
   by_cases c32 : 0 ≤ t729; rotate_left
   · rw [if_neg c32] at H; exact absurd H (by simp)
   rw [if_pos c32] at H; have c32b0 := decide_eq_true c32; clear c32
   by_cases c33 : t729 < (t714.length : Int); rotate_left
   · rw [if_neg c33] at H; exact absurd H (by simp)
   rw [if_pos c33] at H; have c33b0 := decide_eq_true c33; clear c33; obtain ⟨y735, hyq⟩ : ∃ y_ : List Int, y_ = (t714.set (t729 : Int).toNat ((t732) % 256)) := ⟨_, rfl⟩; replace H : (some y735) = some r := by first | (rw [hyq]; with_reducible exact H) | (have H2_ := (Option.bind_some _ _).symm.trans H; rw [hyq]; with_reducible exact H2_) | (have H2_ := (Option.bind_some _ _).symm.trans H; with_reducible exact H2_) | with_reducible exact H | (rw [hyq]; exact H) | exact H
   have Ny735 := ak hyq; clear hyq; obtain rfl := Option.some.inj H; go_wp2_with (first | ((with_reducible refine gate_callee (f := 91) rfl ?_); refine goB 18 Try.func91 #[.pointer (some ⟨g704, 0, none⟩), .int .i64 3] rfl ?_; (with_reducible refine (spec_l01Below.calls g704 t701 x705001_4 x705002_4 3 t720 t721 t722 w _ ?side1 ?side2 A17.out).mono ?_); (case side1 => exact xq25); (case side2 => exact xq17); rintro e w35 ⟨rfl, hi, hb, hk⟩; refine ⟨_, rfl, ?_⟩; replace HO_4 := ak (Kd.R_mono (Kd.R_keep (IsS121.apart (show IsS121 w _ g704 t701 x705001_4 x705002_4 from by repeat (first | (with_reducible first | exact HI704.out | apply IsS121.alloc | apply IsS121.drewN | apply IsS121.drew | apply IsS121.set_1 | apply IsS121.set_2) | exact HI704.out)) (rF HO_4) (by decide)) hk (fun _ h => h.2)) (fun _ h => h.1)); replace HB := ak hb; replace HI704 := ak hi; (try clear hb hk hi); obtain ⟨Ao36, co36, eo36⟩ := Kd.R_slice HO_4.out; subst eo36) | ((with_reducible refine gate_callee (f := 91) rfl ?_); refine goB 37 Try.func91 #[.pointer (some ⟨g704, 0, none⟩), .int .i64 (t714.length : Int)] rfl ?_; (with_reducible refine (spec_l01Below.calls g704 t701 t721 t722 (t714.length : Int) t729 t730 t731 w _ ?side1 ?side2 A30.out).mono ?_); (case side1 => exact xq25); (case side2 => exact xq17); rintro e w37 ⟨rfl, hi, hb, hk⟩; refine ⟨_, rfl, ?_⟩; replace HO_4 := ak (Kd.R_mono (Kd.R_keep (IsS121.apart (show IsS121 w _ g704 t701 t721 t722 from by repeat (first | (with_reducible first | exact HI704.out | apply IsS121.alloc | apply IsS121.drewN | apply IsS121.drew | apply IsS121.set_1 | apply IsS121.set_2) | exact HI704.out)) (rF HO_4) (by decide)) hk (fun _ h => h.2)) (fun _ h => h.1)); replace HB := ak hb; replace HI704 := ak hi; (try clear hb hk hi)) | ((with_reducible refine gate_callee (f := 91) rfl ?_); refine goB 39 Try.func91 #[.pointer (some ⟨g704, 0, none⟩), .int .i64 256] rfl ?_; (with_reducible refine (spec_l01Below.calls g704 t701 t730 t731 256 t732 t733 t734 w _ ?side1 ?side2 A31.out).mono ?_); (case side1 => exact xq25); (case side2 => exact xq17); rintro e w38 ⟨rfl, hi, hb, hk⟩; refine ⟨_, rfl, ?_⟩; replace HO_4 := ak (Kd.R_mono (Kd.R_keep (IsS121.apart (show IsS121 w _ g704 t701 t730 t731 from by repeat (first | (with_reducible first | exact HI704.out | apply IsS121.alloc | apply IsS121.drewN | apply IsS121.drew | apply IsS121.set_1 | apply IsS121.set_2) | exact HI704.out)) (rF HO_4) (by decide)) hk (fun _ h => h.2)) (fun _ h => h.1)); replace HB := ak hb; replace HI704 := ak hi; (try clear hb hk hi); have p34 : 0 ≤ (t729 : Int) := odA; have q34 : (t729 : Int) < ((t714.length : Int) : Int) := odA; obtain ⟨go34, co34, eo34, gb34, gl34, cl34, HG34⟩ := Kd.R_form HO_4.out (by omega); (first | cases eo34 | (injection eo34 with ea_ en_ ec_; (first | subst ea_ | (injection ea_ with ea_; subst ea_)); subst ec_; clear en_)); have GB34 := ak gb34; have GG34 := ak HG34; clear gb34 gl34 HG34; obtain ⟨hx34_0, hf34_0⟩ := Kd.R_celln 0 HO_4.out (t729 : Int) p34 q34; replace p34 := eq_true p34; replace q34 := eq_true q34; obtain ⟨hy39_, hz39_⟩ := Kd.R_celln 0 HO_4.out (t729 : Int) (odA) (odA); have HP39 := Kd.R_putg HO_4.out (t729 : Int) ((t732) % 256)) | ((with_reducible refine gate_store (t := 5) (p := 41) rfl ?_); refine store_event (t := 5) (p := 41) (v := ?vo_w40) (w1 := (w38.setCell ⟨go34, (t729 : Int).toNat, none⟩ (.int .u8 ((t732) % 256)))) ?hg ?ho ?hn ?hr ?_; (case ho => rfl); (case hg => rfl); (case hn => rfl); (case hr => exact xq11); intro w40 hw; have hg : w38.grownBy w40 (some go34) := (by rw [hw]; exact HP39.2); have hp_ : Kd.R (Kd.int .u8) 5 w40 w.heap.size (fun _ => True) (.slice (some ⟨go34, 0, none⟩) t714.length co36) y735 := (by rw [hw, Ny735.out]; exact HP39.1); clear HP39; replace HI704 := ak (IsS121.grown xq85 hg (IsS121.own_ne HI704.out HO_4.out (by decide))); replace HO_4 := ak hp_; replace HB := ak ((by rw [hw]; exact below_set (HB.out) GB34.out : Below w.heap.size w w40)); clear hg hw hp_))
   go_ret
   exact ⟨_, xq6, xq62, xq17⟩

def laws_alt.l0 : Nat → List Int → List Int → Int → Option (List Int)
 | 0, _, _, _ => none
 | k + 1, x0, x5, x6 => if x6 < (x0.length : Int) then (if x6 < 3000 then (if 0 ≤ x6 then (if x5.length < 140737488355328 then (laws_alt.l0 k x0 (x5 ++ [rd x0 x6]) (wrap64 (x6 + 1))) else (none)) else (none)) else (some x5)) else (some x5)
def laws_alt.f (k : Nat) (l0 : List Int) (a1 : Int) : Option (List Int) := laws_alt.l0 k l0 (([(a1) % 256] : List Int)) 0
theorem laws_alt.mono_l : ∀ k, (∀ y0 y1 y2, LeO (laws_alt.l0 k y0 y1 y2) (laws_alt.l0 (k + 1) y0 y1 y2))
 | 0 => fun _ _ _ r h => by simp [laws_alt.l0] at h
 | k + 1 => by
  have ih0 := laws_alt.mono_l k
  · intro y0 y1 y2; unfold laws_alt.l0; exact xq18
theorem laws_alt.mono : ∀ a0 a1 k, LeO (laws_alt.f k a0 a1) (laws_alt.f (k + 1) a0 a1) := by
 intro a0 a1 k; have ih0 := laws_alt.mono_l k
 unfold laws_alt.f
 exact xq18
theorem laws_alt.calls (k : Nat) (A0 : Option Addr) (c0 : Nat) (l0 : List Int) (a1 : Int) (r : List Int) (w : World) (hr0 : Kd.C (Kd.int .u8) w A0 l0.length l0) (hc0 : l0.length ≤ c0) (h : laws_alt.f k l0 a1 = some r) :
 Calls Try.prog 50 #[.slice A0 l0.length c0, .int .i64 a1] w fun e w' => ∃ v0_ : Value, e = .returned (v0_) ∧ Kd.R (Kd.int .u8) 5 w' w.heap.size (fun _ => True) v0_ r ∧ Below w.heap.size w w' := by
 have HR0 := ak hr0; have HC0 := ak hc0; clear hr0 hc0; have HB := ak (Below.refl w.heap.size w); have H : (laws_alt.l0 k l0 (([(a1) % 256] : List Int)) 0) = some r := h; clear h; obtain ⟨y736, hyq⟩ : ∃ y_ : List Int, y_ = (([(a1) % 256] : List Int)) := ⟨_, rfl⟩; replace H : (laws_alt.l0 k l0 y736 0) = some r := by first | (rw [hyq]; with_reducible exact H) | (have H2_ := (Option.bind_some _ _).symm.trans H; rw [hyq]; with_reducible exact H2_) | (have H2_ := (Option.bind_some _ _).symm.trans H; with_reducible exact H2_) | with_reducible exact H | (rw [hyq]; exact H) | exact H
 have Ny736 := ak hyq; clear hyq; have H' := ak H; clear H; go_enter Try.func50, Try.ntmps50
 go_wp2_with (first | ((with_reducible refine gate_dst (N := 9) rfl ?_); refine Kd.R_lit (Kd.int .u8) _ 5 ?hg (N := 9) ?hd (xs := ([(a1) % 256] : List Int)) (inner := [.int .u8 ((a1) % 256)]) (ok := fun _ => True) (okp := fun _ => True) ?hr ?hp (fun _ hk => hk) trivial (Below.refl _ _) (Nat.le_refl _) (by simp) ?_; (case hd => rfl); (case hg => rfl); (case hr => exact xq11); (case hp => exact (Reps.one (show Kd.M (Kd.int .u8) _ _ _ ((a1) % 256) [.int .u8 ((a1) % 256)] from rfl) (Reps.none _ _))); intro v737 w3 ho4 hb hg_ hnew_; clear hg_ hnew_; (first | rw [← Ny736.out] at ho4 | (simp only [Int.reduceToNat] at ho4; rw [← Ny736.out] at ho4)); have HO738 := rL ho4; replace HB := bS hb; clear hb ho4))
 go_loopg [5, 6] k (fun kq v5 v6 w' => ∃ (x5_1 : List Int) (x6_1 : Int), v6 = .int .i64 x6_1 ∧ Aside0 (laws_alt.l0 kq l0 x5_1 x6_1 = some r) ∧ Aside0 (kq ≤ k) ∧ Aside0 (Kd.R (Kd.int .u8) 5 w' w.heap.size (fun _ => True) v5 x5_1) ∧ Aside0 (Below w.heap.size w w'))
 case atStart => exact ⟨(y736), (0), eqA, H', ⟨Nat.le_refl _⟩, ⟨rA HO738⟩, ⟨belA⟩⟩
 case round =>
  clear H'; obtain ⟨x5_1, x6_1, rfl, HA, HK1, HO_5, HB⟩ := hrel
  cases gk with
  | zero => exact absurd HA.out (by simp [laws_alt.l0])
  | succ k1 =>
   have H := HA.out; clear HA; simp only [laws_alt.l0] at H
   by_cases c5 : x6_1 < (l0.length : Int); rotate_left
   · rw [if_neg c5] at H; have c5b0 := decide_eq_false c5; clear c5; obtain rfl := Option.some.inj H; go_wp2
     go_ret
     exact ⟨_, xq6, xq53, belA⟩
   rw [if_pos c5] at H; have c5b0 := decide_eq_true c5; clear c5
   by_cases c6 : x6_1 < 3000; rotate_left
   · rw [if_neg c6] at H; have c6b0 := decide_eq_false c6; clear c6; obtain rfl := Option.some.inj H; go_wp2
     go_ret
     exact ⟨_, xq6, xq53, belA⟩
   rw [if_pos c6] at H; have c6b0 := decide_eq_true c6; clear c6
   by_cases c7 : 0 ≤ x6_1; rotate_left
   · rw [if_neg c7] at H; exact absurd H (by simp)
   rw [if_pos c7] at H; have c7b0 := decide_eq_true c7; clear c7
   by_cases c8 : x5_1.length < 140737488355328; rotate_left
   · rw [if_neg c8] at H; exact absurd H (by simp)
   rw [if_pos c8] at H; have LMc8 := ak c8; clear c8; obtain ⟨y740, hyq⟩ : ∃ y_ : List Int, y_ = (x5_1 ++ [rd l0 x6_1]) := ⟨_, rfl⟩; replace H : (laws_alt.l0 k1 l0 y740 (wrap64 (x6_1 + 1))) = some r := by first | (rw [hyq]; with_reducible exact H) | (have H2_ := (Option.bind_some _ _).symm.trans H; rw [hyq]; with_reducible exact H2_) | (have H2_ := (Option.bind_some _ _).symm.trans H; with_reducible exact H2_) | with_reducible exact H | (rw [hyq]; exact H) | exact H
   have Ny740 := ak hyq; clear hyq; have H' := ak H; clear H; have p739 : 0 ≤ (x6_1 : Int) := odA; have q739 : x6_1 < (l0.length : Int) := odA; obtain ⟨ad739, e739, hx739_0⟩ := Kd.at_int HR0.out x6_1 p739 q739
   cases e739
   try replace hx739_0 := cB HB hx739_0
   replace p739 := eq_true p739; replace q739 := eq_true q739; go_wp2_with (first | ((with_reducible refine gate_builtin (b := .append) (xs := #[.tmp 20, .tmp 25]) rfl ?_); at_builtin; refine Kd.R_append (Kd.int .u8) (w0 := w) w.heap.size rfl (.tmp 20) (.tmp 25) 22 5 (.int .u8 0) 1 rfl Try.underlying22 info5 rfl (by decide) (by omega) u5 x5_1 (rd l0 x6_1) [.int .u8 (rd l0 x6_1)] (fun _ => True) (fun _ => False) rfl rfl ?aP (fun _ hk => hk.elim) ?aF ?aO ?aB ?aS ?aL ?_; (case aP => exact rfl); (case aB => exact belA); (case aF => exact (fun _ _ => trivial)); (case aO => exact (rF HO_5)); (case aS => exact (below_size belA)); (case aL => have := LMc8.out; omega); intro v741 w9 ho hb hg hat; rw [← Ny740.out] at ho; have HO742 := ak ho; replace HB := ak hb; clear HO_5; clear ho hb hg hat))
   go_roundg k1
   case measure => have := HK1.out; omega
   case rel => exact ⟨(y740), (wrap64 (x6_1 + 1)), eqA, H', ⟨xq19⟩, ⟨rA HO742⟩, ⟨belA⟩⟩

end Go.Proofs.Ytogdhclomgafdaa.PFnJobBytes

-- Written by a program of this session (the print of the kit with contracts of this session's own added)
import Derived.Test.YtogdhclomgafdaaZFJBx10
import Derived.Test.YtogdhclomgafdaaZFJBx18
namespace Go.Proofs.Ytogdhclomgafdaa.PFnJobBytes
open Go.RowKit Go.Proofs.YtogdhclomgafdaaW.PrintWords Go.Proofs.YtogdhclomgafdaaW.PrintLast Go.Proofs.YtogdhclomgafdaaW.PrintMore Go.Proofs.YtogdhclomgafdaaW.PrintPack
set_option linter.unusedVariables false
set_option linter.unusedSimpArgs false

def spec_DecodeJob.f (k : Nat) (l0 : List Int) : Option (Int × Int × List Int × List Int × Int × Bool) := if (l0.length : Int) < 2 then (some (0, 0, ([] : List Int), ([] : List Int), 0, false)) else (if 0 < (l0.length : Int) then (if 1 < (l0.length : Int) then ((spec_TakeNumber.f k l0 2).bind fun bt768 => (if bt768.2.2 = true then ((spec_l10TakeList.f k l0 bt768.2.1).bind fun bt771 => (if bt771.2.2 = true then ((spec_l10TakeList.f k l0 bt771.2.1).bind fun bt776 => (if bt776.2.2 = true then (if bt776.2.1 = (l0.length : Int) then ((spec_JobOk.f k (wrap64 (rd l0 0)) (wrap64 (rd l0 1)) bt771.1 bt776.1 bt768.1).bind fun t781 => (if t781 = true then (some (wrap64 (rd l0 0), wrap64 (rd l0 1), bt771.1, bt776.1, bt768.1, true)) else (some (0, 0, ([] : List Int), ([] : List Int), 0, false)))) else (some (0, 0, ([] : List Int), ([] : List Int), 0, false))) else (some (0, 0, ([] : List Int), ([] : List Int), 0, false)))) else (some (0, 0, ([] : List Int), ([] : List Int), 0, false)))) else (some (0, 0, ([] : List Int), ([] : List Int), 0, false)))) else (none)) else (none))
theorem spec_DecodeJob.mono : ∀ a0 k, LeO (spec_DecodeJob.f k a0) (spec_DecodeJob.f (k + 1) a0) := by
 intro a0 k
 unfold spec_DecodeJob.f
 exact (by repeat' (with_reducible first | exact spec_JobOk.mono _ _ _ _ _ _ | exact spec_TakeNumber.mono _ _ _ | exact spec_l10TakeList.mono _ _ _ | exact LeO.refl _ | exact LeO.none _ | refine LeO.ite ?_ ?_ | refine LeO.bind ?_ (fun _ => ?_)))
def spec_DecodeJob.T3 : Bool × List (List Nat × List Nat) := (true, [([], []), ([0], [0]), ([1], [1]), ([2], [2]), ([], []), ([4], [4]), ([5], [5]), ([6], [6]), ([3, 7], [3, 7]), ([], []), ([9, 8, 0, 1, 2, 3, 4, 5, 6, 7, 8, 9], [8, 9])])
def spec_DecodeJob.B3 : List Nat := [0, 1, 3, 7, 0, 16, 48, 112, 255, 0, 1023]
theorem spec_DecodeJob.tab3 : rtab .any (opsOf Try.f51 3) = spec_DecodeJob.T3 := by kernel_rfl
theorem spec_DecodeJob.bits3 : waitsOk spec_DecodeJob.T3.2 spec_DecodeJob.B3 = true := by kernel_rfl
set_option maxHeartbeats 8000000 in
set_option maxRecDepth 100000 in
theorem spec_DecodeJob.calls (k : Nat) (A0 : Option Addr) (c0 : Nat) (l0 : List Int) (r1 : Int) (r2 : Int) (r3 : List Int) (r4 : List Int) (r5 : Int) (r6 : Bool) (w : World) (hr0 : Kd.C (Kd.int .u8) w A0 l0.length l0) (hc0 : l0.length ≤ c0) (h : spec_DecodeJob.f k l0 = some (r1, r2, r3, r4, r5, r6)) :
 Calls Try.prog 51 #[.slice A0 l0.length c0] w fun e w' => ∃ v2_ v3_ : Value, e = .returned (.tuple #[.agg #[.int .i64 r1, .int .i64 r2, v2_, v3_, .int .i64 r5], .bool r6]) ∧ Kd.R (Kd.int .i64) 3 w' w.heap.size (fun k_ => some k_ ≠ (v3_ : Value).ownBlock) v2_ r3 ∧ Kd.R (Kd.int .i64) 3 w' w.heap.size (fun k_ => some k_ ≠ (v2_ : Value).ownBlock) v3_ r4 ∧ Below w.heap.size w w' := by
 have hu49 := Try.underlying49; have HR0 := ak hr0; have HC0 := ak hc0; clear hr0 hc0; have HB := ak (Below.refl w.heap.size w); have H : (if (l0.length : Int) < 2 then (some (0, 0, ([] : List Int), ([] : List Int), 0, false)) else (if 0 < (l0.length : Int) then (if 1 < (l0.length : Int) then ((spec_TakeNumber.f k l0 2).bind fun bt768 => (if bt768.2.2 = true then ((spec_l10TakeList.f k l0 bt768.2.1).bind fun bt771 => (if bt771.2.2 = true then ((spec_l10TakeList.f k l0 bt771.2.1).bind fun bt776 => (if bt776.2.2 = true then (if bt776.2.1 = (l0.length : Int) then ((spec_JobOk.f k (wrap64 (rd l0 0)) (wrap64 (rd l0 1)) bt771.1 bt776.1 bt768.1).bind fun t781 => (if t781 = true then (some (wrap64 (rd l0 0), wrap64 (rd l0 1), bt771.1, bt776.1, bt768.1, true)) else (some (0, 0, ([] : List Int), ([] : List Int), 0, false)))) else (some (0, 0, ([] : List Int), ([] : List Int), 0, false))) else (some (0, 0, ([] : List Int), ([] : List Int), 0, false)))) else (some (0, 0, ([] : List Int), ([] : List Int), 0, false)))) else (some (0, 0, ([] : List Int), ([] : List Int), 0, false)))) else (none)) else (none))) = some (r1, r2, r3, r4, r5, r6) := h; clear h
 by_cases c2 : (l0.length : Int) < 2
 · rw [if_pos c2] at H; have c2b0 := decide_eq_true c2; have c2b1 : decide (l0.length < 2) = true := decide_eq_true (by omega); clear c2; simp only [Option.some.injEq, Prod.mk.injEq] at H; obtain ⟨rfl, rfl, rfl, rfl, rfl, rfl⟩ := H; go_enter Try.func51, Try.ntmps51
   go_wp2_with (first | ((with_reducible refine gate_dst (N := 2) rfl ?_); (try (refine gate_guard (by rfl) ?_; dsimp only)); refine boxA 2 #[.int .i64 0, .int .i64 0, .slice none 0 0, .slice none 0 0, .int .i64 0] 49 ?_; intro gb764 hg w3 hbox hb; have BK764 := ak hbox; have GW764 := leA (w := w) hg; have GE764 := leA (w := w) hg; replace HB := bS hb; clear hb hbox hg; obtain ⟨_, _, _, _, _, _, _, _, _, _⟩ := cel5 BK764))
   refine bodyPost_ret (results_ct rfl _ _ gb764 49 #[.int .i64 0, .int .i64 0, .slice none 0 0, .slice none 0 0, .int .i64 0] (0, 0) _ rfl xq65 Try.underlying49 rfl (by kernel_rfl)) rfl ?_
   exact ⟨_, _, xq6, xq16, xq16, belA⟩
 rw [if_neg c2] at H; have c2b0 := decide_eq_false c2; have c2b1 : decide (l0.length < 2) = false := decide_eq_false (by omega); clear c2
 by_cases c5 : 0 < (l0.length : Int); rotate_left
 · rw [if_neg c5] at H; exact absurd H (by simp)
 rw [if_pos c5] at H; have c5b0 := decide_eq_true c5; have c5b1 : decide (0 < l0.length) = true := decide_eq_true (by omega); clear c5
 by_cases c6 : 1 < (l0.length : Int); rotate_left
 · rw [if_neg c6] at H; exact absurd H (by simp)
 rw [if_pos c6] at H; have c6b0 := decide_eq_true c6; have c6b1 : decide (1 < l0.length) = true := decide_eq_true (by omega); clear c6; replace H := Option.bind_eq_some_iff.mp H; obtain ⟨⟨t768, t769, t770⟩, A70, H⟩ := H; (try dsimp only at H); have A7 := ak A70; clear A70
 by_cases c8 : t770 = true; rotate_left
 · replace c8 := Bool.eq_false_iff.mpr c8; subst c8; have H1 : (some (0, 0, ([] : List Int), ([] : List Int), 0, false)) = some (r1, r2, r3, r4, r5, r6) := by rw [if_neg (show ¬ (false = true) by decide)] at H; exact H
   clear H; have H := H1; clear H1; simp only [Option.some.injEq, Prod.mk.injEq] at H; obtain ⟨rfl, rfl, rfl, rfl, rfl, rfl⟩ := H; go_enter Try.func51, Try.ntmps51
   try go_wp2_with (first | ((with_reducible refine gate_dst (N := 2) rfl ?_); (try (refine gate_guard (by rfl) ?_; dsimp only)); refine boxA 2 #[.int .i64 0, .int .i64 0, .slice none 0 0, .slice none 0 0, .int .i64 0] 49 ?_; intro gb764 hg w106 hbox hb; have BK764 := ak hbox; have GW764 := leA (w := w) hg; have GE764 := leA (w := w) hg; replace HB := bS hb; clear hb hbox hg))
   replace BK764 := ak (blk_drew BK764.out); replace HB := ak (below_drew1 HB.out); have p765 : 0 ≤ (0 : Int) := (by omega); have q765 : 0 < (l0.length : Int) := odA; obtain ⟨ad765, e765, hx765_0⟩ := Kd.at_int HR0.out 0 p765 q765; have hw765_0 := hx765_0; (try rw [show ((0 : Int)).toNat = 0 from rfl] at hw765_0)
   (try rw [show 0 * 1 = 0 from rfl] at hw765_0)
   (try rw [Addr.add_zero'] at hw765_0)
   cases e765
   have qi765 : (0 < l0.length) = True := eq_true (by omega); (try rw [show ((0 : Int)).toNat = 0 from rfl] at hx765_0)
   (try rw [Addr.add_zero'] at hx765_0)
   try replace hx765_0 := cB HB hx765_0
   replace p765 := eq_true p765; replace q765 := eq_true q765; have p766 : 0 ≤ (1 : Int) := (by omega); have q766 : 1 < (l0.length : Int) := odA; obtain ⟨ad766, e766, hx766_0⟩ := Kd.at_int HR0.out 1 p766 q766; have hw766_0 := hx766_0; (try rw [show ((1 : Int)).toNat = 1 from rfl] at hw766_0)
   (try rw [show 1 * 1 = 1 from rfl] at hw766_0)
   (try simp only [Nat.reduceMul, Nat.reduceEqDiff, Go.Addr.add, ↓reduceIte] at hw766_0)
   obtain rfl : ad765 = ad766 := (by injection e766); (try simp only [show (1 : Int).toNat = 1 from rfl, Nat.reduceMul, Nat.reduceEqDiff, Go.Addr.add, ↓reduceIte] at hx766_0)
   have qi766 : (1 < l0.length) = True := eq_true (by omega); (try rw [show ((1 : Int)).toNat = 1 from rfl] at hx766_0)
   try replace hx766_0 := cB HB hx766_0
   replace p766 := eq_true p766; replace q766 := eq_true q766; refine start_ (n := 11) (S := fun w' => w'.cell? ad765 = some (.int .u8 (rd l0 0)) ∧ w'.cell? ⟨ad765.block, ad765.off + 1, none⟩ = some (.int .u8 (rd l0 1))) (ds := []) #[false, false, false, false, false, false, false, false, false, false, false] (by kernel_rfl) rfl rfl ⟨((HB.out.cell (World.block_lt_of_cell? w _ hw765_0)).trans hw765_0), ((HB.out.cell (World.block_lt_of_cell? w _ hw766_0)).trans hw766_0)⟩ (fun hHeld => ?_); refine with_tabW spec_DecodeJob.tab3 spec_DecodeJob.bits3 (fun HT_ HW_ => ?_)
   generalize w106.drew = w107 at BK764 HB hx765_0 hx766_0 hHeld ⊢
   refine pure_ (i := 0) (N := some 12) (v := ?_) (a' := ?_) #[true, false, false, false, false, false, false, false, false, false, false] rfl rfl (any_of HT_.out (by kernel_rfl)) (fun _ _ _ h => h) (Or.inl ⟨by rfl, ?_⟩) ?_ ?_
   rotate_left
   · intro w'; go_simp
     with_reducible rfl
   rotate_left
   · simp only [Act.put, sa, sb, sc, i64_w, i32_w]
     rfl
   refine pure_ (i := 1) (N := some 13) (v := ?_) (a' := ?_) #[true, true, false, false, false, false, false, false, false, false, false] rfl rfl (any_of HT_.out (by kernel_rfl)) (fun _ _ _ h => h) (Or.inl ⟨by rfl, ?_⟩) ?_ ?_
   rotate_left
   · intro w'; go_simp
     with_reducible rfl
   rotate_left
   · simp only [Act.put, sa, sb, sc, i64_w, i32_w]
     rfl
   refine pure_ (i := 4) (N := some 16) (v := ?_) (a' := ?_) #[true, true, false, false, true, false, false, false, false, false, false] rfl rfl (any_of HT_.out (by kernel_rfl)) (fun _ _ _ h => h) (Or.inl ⟨by rfl, ?_⟩) ?_ ?_
   rotate_left
   · intro w'; go_simp
     with_reducible rfl
   rotate_left
   · simp only [Act.put, sa, sb, sc, i64_w, i32_w]
     rfl
   refine pure_ (i := 5) (N := some 17) (v := ?_) (a' := ?_) #[true, true, false, false, true, true, false, false, false, false, false] rfl rfl (any_of HT_.out (by kernel_rfl)) (fun _ _ _ h => h) (Or.inl ⟨by rfl, ?_⟩) ?_ ?_
   rotate_left
   · intro w'; go_simp
     with_reducible rfl
   rotate_left
   · simp only [Act.put, sa, sb, sc, i64_w, i32_w]
     rfl
   refine take_ (i := 2) (N := some 14) (v := ?_) (a' := ?_) #[true, true, true, false, true, true, false, false, false, false, false] rfl rfl (take_ofW HT_.out HW_.out (by kernel_rfl)) (fun _ _ _ h => h) (Or.inl ⟨by rfl, ?_⟩) hHeld ?_ ?_
   rotate_left
   · rintro w' ⟨s0, s1⟩
     go_simp
     with_reducible rfl
   rotate_left
   · simp only [Act.put, sa, sb, sc, i64_w, i32_w]
     rfl
   refine pure_ (i := 3) (N := some 15) (v := ?_) (a' := ?_) #[true, true, true, true, true, true, false, false, false, false, false] rfl rfl (any_of HT_.out (by kernel_rfl)) (fun _ _ _ h => h) (Or.inl ⟨by rfl, ?_⟩) ?_ ?_
   rotate_left
   · intro w'; go_simp
     with_reducible rfl
   rotate_left
   · simp only [Act.put, sa, sb, sc, i64_w, i32_w]
     rfl
   refine take_ (i := 6) (N := some 18) (v := ?_) (a' := ?_) #[true, true, true, true, true, true, true, false, false, false, false] rfl rfl (take_ofW HT_.out HW_.out (by kernel_rfl)) (fun _ _ _ h => h) (Or.inl ⟨by rfl, ?_⟩) hHeld ?_ ?_
   rotate_left
   · rintro w' ⟨s0, s1⟩
     go_simp
     with_reducible rfl
   rotate_left
   · simp only [Act.put, sa, sb, sc, i64_w, i32_w]
     rfl
   refine pure_ (i := 7) (N := some 19) (v := ?_) (a' := ?_) #[true, true, true, true, true, true, true, true, false, false, false] rfl rfl (any_of HT_.out (by kernel_rfl)) (fun _ _ _ h => h) (Or.inl ⟨by rfl, ?_⟩) ?_ ?_
   rotate_left
   · intro w'; go_simp
     with_reducible rfl
   rotate_left
   · simp only [Act.put, sa, sb, sc, i64_w, i32_w]
     rfl
   refine pure_ (i := 8) (N := some 20) (v := ?_) (a' := ?_) #[true, true, true, true, true, true, true, true, true, false, false] rfl rfl (any_of HT_.out (by kernel_rfl)) (fun _ _ _ h => h) (Or.inl ⟨by rfl, ?_⟩) ?_ ?_
   rotate_left
   · intro w'; go_simp
     with_reducible rfl
   rotate_left
   · simp only [Act.put, sa, sb, sc, i64_w, i32_w]
     rfl
   refine one_ (i := 9) (N := some 4) #[true, true, true, true, true, true, true, true, true, true, false] rfl rfl (one_of HT_.out (by kernel_rfl)) (by decide) (fun K hK => ?_)
   refine box_step ?hg (N := 4) ?hd (cs := #[.int .i64 0, .int .i64 0, .slice none 0 0, .slice none 0 0, .int .i64 0]) (t := 49) ?hr ?_; (case hd => rfl); (case hg => rfl); (case hr => exact xq11)
   intro gb767 hg w108 hbox hb; have BK767 := ak hbox; have GW767 := leA (w := w) hg; have GE767 := leA (w := w) hg; have NB764_767 := neL hg BK764; have NB767_764 := neG hg BK764; replace BK764 := bB BK764 hb; replace HB := bS hb; clear hb hbox hg; refine hK.out _ _ ⟨((HB.out.cell (World.block_lt_of_cell? w _ hw765_0)).trans hw765_0), ((HB.out.cell (World.block_lt_of_cell? w _ hw766_0)).trans hw766_0)⟩ (fun hHeld => ?_)
   clear hK K; refine norm_ (a' := ?_) ?_ ?_
   rotate_left
   · show Act.put _ (some 4) _ = _
     simp only [Act.put, sa, sb, sc, i64_w, i32_w]
     rfl
   refine one_ (i := 10) (N := none) #[true, true, true, true, true, true, true, true, true, true, true] rfl rfl (one_of HT_.out (by kernel_rfl)) (by decide) (fun K hK => ?_)
   have hs109 : w108.cell? ⟨gb767, 0, none⟩ = some (.int .i64 0) := (blk_cell BK767.out 0).trans rfl; have hfs109 := blk_frozen BK767.out 0; have hns109_0 := NB764_767.out; have hms109_0 := NB767_764.out; have hs110 : w108.cell? ⟨gb767, 1, none⟩ = some (.int .i64 0) := (blk_cell BK767.out 1).trans rfl; have hfs110 := blk_frozen BK767.out 1; have hns110_0 := NB764_767.out; have hms110_0 := NB767_764.out; have hs111 : w108.cell? ⟨gb767, 2, none⟩ = some (.slice none 0 0) := (blk_cell BK767.out 2).trans rfl; have hfs111 := blk_frozen BK767.out 2; have hns111_0 := NB764_767.out; have hms111_0 := NB767_764.out; have hs112 : w108.cell? ⟨gb767, 3, none⟩ = some (.slice none 0 0) := (blk_cell BK767.out 3).trans rfl; have hfs112 := blk_frozen BK767.out 3; have hns112_0 := NB764_767.out; have hms112_0 := NB767_764.out; have hs113 : w108.cell? ⟨gb767, 4, none⟩ = some (.int .i64 0) := (blk_cell BK767.out 4).trans rfl; have hfs113 := blk_frozen BK767.out 4; have hns113_0 := NB764_767.out; have hms113_0 := NB767_764.out; refine skip_ (w1 := ?_) (by rfl) rfl ?_ ?_
   rotate_left
   · go_simp
     rfl
   refine hK.out _ _ ⟨((cell_far (p := ⟨gb767, _, none⟩) xq13 _).trans (((cell_far (p := ⟨gb767, _, none⟩) xq13 _).trans (((cell_far (p := ⟨gb767, _, none⟩) xq13 _).trans (((cell_far (p := ⟨gb767, _, none⟩) xq13 _).trans (((cell_far (p := ⟨gb767, _, none⟩) xq13 _).trans (hHeld.1)))))))))), ((cell_far (p := ⟨gb767, _, none⟩) xq14 _).trans (((cell_far (p := ⟨gb767, _, none⟩) xq14 _).trans (((cell_far (p := ⟨gb767, _, none⟩) xq14 _).trans (((cell_far (p := ⟨gb767, _, none⟩) xq14 _).trans (((cell_far (p := ⟨gb767, _, none⟩) xq14 _).trans (hHeld.2))))))))))⟩ (fun hHeld => ?_)
   clear hK K; refine done_ (done_of HT_.out (by kernel_rfl)) ?_
   try go_wp2_with (first | ((with_reducible refine gate_callee (f := 92) rfl ?_); refine goB 23 Try.func92 #[.slice (some ad765) l0.length c0, .int .i64 2] rfl ?_; (with_reducible refine (spec_TakeNumber.calls k _ _ l0 2 t768 t769 false _ ?side1 ?side2 A7.out).mono ?_); (case side1 => exact Kd.C_below HR0.out belA); (case side2 => exact HC0.out); rintro e w114 ⟨rfl, hb⟩; refine ⟨_, rfl, ?_⟩; replace BK764 := ak (blk_below (g := gb764) (o := .cells #[.int .i64 0, .int .i64 0, .slice none 0 0, .slice none 0 0, .int .i64 0] 49 (0, 0)) xq32 hb); replace BK767 := ak (blk_below (g := gb767) (o := .cells #[.int .i64 (wrap64 (rd l0 0)), .int .i64 (wrap64 (rd l0 1)), .slice none 0 0, .slice none 0 0, .int .i64 0] 49 (0, 0)) xq33 hb); replace HB := bS hb; (try clear hb); have hnb115 := NB764_767.out; have hnc115 := NB767_764.out; obtain ⟨_, _, _, _, _, _, _, _, _, _⟩ := cel5 BK764))
   refine bodyPost_ret (results_ct rfl _ _ gb764 49 #[.int .i64 0, .int .i64 0, .slice none 0 0, .slice none 0 0, .int .i64 0] (0, 0) _ rfl xq65 Try.underlying49 rfl (by kernel_rfl)) rfl ?_
   exact ⟨_, _, xq6, xq16, xq16, belA⟩
 subst c8; have H1 : ((spec_l10TakeList.f k l0 t769).bind fun bt771 => (if bt771.2.2 = true then ((spec_l10TakeList.f k l0 bt771.2.1).bind fun bt776 => (if bt776.2.2 = true then (if bt776.2.1 = (l0.length : Int) then ((spec_JobOk.f k (wrap64 (rd l0 0)) (wrap64 (rd l0 1)) bt771.1 bt776.1 t768).bind fun t781 => (if t781 = true then (some (wrap64 (rd l0 0), wrap64 (rd l0 1), bt771.1, bt776.1, t768, true)) else (some (0, 0, ([] : List Int), ([] : List Int), 0, false)))) else (some (0, 0, ([] : List Int), ([] : List Int), 0, false))) else (some (0, 0, ([] : List Int), ([] : List Int), 0, false)))) else (some (0, 0, ([] : List Int), ([] : List Int), 0, false)))) = some (r1, r2, r3, r4, r5, r6) := by rw [if_pos rfl] at H; exact H
 clear H; have H := H1; clear H1; replace H := Option.bind_eq_some_iff.mp H; obtain ⟨⟨t771, t772, t773⟩, A90, H⟩ := H; (try dsimp only at H); have A9 := ak A90; clear A90
 by_cases c10 : t773 = true; rotate_left
 · replace c10 := Bool.eq_false_iff.mpr c10; subst c10; have H1 : (some (0, 0, ([] : List Int), ([] : List Int), 0, false)) = some (r1, r2, r3, r4, r5, r6) := by rw [if_neg (show ¬ (false = true) by decide)] at H; exact H
   clear H; have H := H1; clear H1; simp only [Option.some.injEq, Prod.mk.injEq] at H; obtain ⟨rfl, rfl, rfl, rfl, rfl, rfl⟩ := H; go_enter Try.func51, Try.ntmps51
   try go_wp2_with (first | ((with_reducible refine gate_dst (N := 2) rfl ?_); (try (refine gate_guard (by rfl) ?_; dsimp only)); refine boxA 2 #[.int .i64 0, .int .i64 0, .slice none 0 0, .slice none 0 0, .int .i64 0] 49 ?_; intro gb764 hg w91 hbox hb; have BK764 := ak hbox; have GW764 := leA (w := w) hg; have GE764 := leA (w := w) hg; replace HB := bS hb; clear hb hbox hg))
   replace BK764 := ak (blk_drew BK764.out); replace HB := ak (below_drew1 HB.out); have p765 : 0 ≤ (0 : Int) := (by omega); have q765 : 0 < (l0.length : Int) := odA; obtain ⟨ad765, e765, hx765_0⟩ := Kd.at_int HR0.out 0 p765 q765; have hw765_0 := hx765_0; (try rw [show ((0 : Int)).toNat = 0 from rfl] at hw765_0)
   (try rw [show 0 * 1 = 0 from rfl] at hw765_0)
   (try rw [Addr.add_zero'] at hw765_0)
   cases e765
   have qi765 : (0 < l0.length) = True := eq_true (by omega); (try rw [show ((0 : Int)).toNat = 0 from rfl] at hx765_0)
   (try rw [Addr.add_zero'] at hx765_0)
   try replace hx765_0 := cB HB hx765_0
   replace p765 := eq_true p765; replace q765 := eq_true q765; have p766 : 0 ≤ (1 : Int) := (by omega); have q766 : 1 < (l0.length : Int) := odA; obtain ⟨ad766, e766, hx766_0⟩ := Kd.at_int HR0.out 1 p766 q766; have hw766_0 := hx766_0; (try rw [show ((1 : Int)).toNat = 1 from rfl] at hw766_0)
   (try rw [show 1 * 1 = 1 from rfl] at hw766_0)
   (try simp only [Nat.reduceMul, Nat.reduceEqDiff, Go.Addr.add, ↓reduceIte] at hw766_0)
   obtain rfl : ad765 = ad766 := (by injection e766); (try simp only [show (1 : Int).toNat = 1 from rfl, Nat.reduceMul, Nat.reduceEqDiff, Go.Addr.add, ↓reduceIte] at hx766_0)
   have qi766 : (1 < l0.length) = True := eq_true (by omega); (try rw [show ((1 : Int)).toNat = 1 from rfl] at hx766_0)
   try replace hx766_0 := cB HB hx766_0
   replace p766 := eq_true p766; replace q766 := eq_true q766; refine start_ (n := 11) (S := fun w' => w'.cell? ad765 = some (.int .u8 (rd l0 0)) ∧ w'.cell? ⟨ad765.block, ad765.off + 1, none⟩ = some (.int .u8 (rd l0 1))) (ds := []) #[false, false, false, false, false, false, false, false, false, false, false] (by kernel_rfl) rfl rfl ⟨((HB.out.cell (World.block_lt_of_cell? w _ hw765_0)).trans hw765_0), ((HB.out.cell (World.block_lt_of_cell? w _ hw766_0)).trans hw766_0)⟩ (fun hHeld => ?_); refine with_tabW spec_DecodeJob.tab3 spec_DecodeJob.bits3 (fun HT_ HW_ => ?_)
   generalize w91.drew = w92 at BK764 HB hx765_0 hx766_0 hHeld ⊢
   refine pure_ (i := 0) (N := some 12) (v := ?_) (a' := ?_) #[true, false, false, false, false, false, false, false, false, false, false] rfl rfl (any_of HT_.out (by kernel_rfl)) (fun _ _ _ h => h) (Or.inl ⟨by rfl, ?_⟩) ?_ ?_
   rotate_left
   · intro w'; go_simp
     with_reducible rfl
   rotate_left
   · simp only [Act.put, sa, sb, sc, i64_w, i32_w]
     rfl
   refine pure_ (i := 1) (N := some 13) (v := ?_) (a' := ?_) #[true, true, false, false, false, false, false, false, false, false, false] rfl rfl (any_of HT_.out (by kernel_rfl)) (fun _ _ _ h => h) (Or.inl ⟨by rfl, ?_⟩) ?_ ?_
   rotate_left
   · intro w'; go_simp
     with_reducible rfl
   rotate_left
   · simp only [Act.put, sa, sb, sc, i64_w, i32_w]
     rfl
   refine pure_ (i := 4) (N := some 16) (v := ?_) (a' := ?_) #[true, true, false, false, true, false, false, false, false, false, false] rfl rfl (any_of HT_.out (by kernel_rfl)) (fun _ _ _ h => h) (Or.inl ⟨by rfl, ?_⟩) ?_ ?_
   rotate_left
   · intro w'; go_simp
     with_reducible rfl
   rotate_left
   · simp only [Act.put, sa, sb, sc, i64_w, i32_w]
     rfl
   refine pure_ (i := 5) (N := some 17) (v := ?_) (a' := ?_) #[true, true, false, false, true, true, false, false, false, false, false] rfl rfl (any_of HT_.out (by kernel_rfl)) (fun _ _ _ h => h) (Or.inl ⟨by rfl, ?_⟩) ?_ ?_
   rotate_left
   · intro w'; go_simp
     with_reducible rfl
   rotate_left
   · simp only [Act.put, sa, sb, sc, i64_w, i32_w]
     rfl
   refine take_ (i := 2) (N := some 14) (v := ?_) (a' := ?_) #[true, true, true, false, true, true, false, false, false, false, false] rfl rfl (take_ofW HT_.out HW_.out (by kernel_rfl)) (fun _ _ _ h => h) (Or.inl ⟨by rfl, ?_⟩) hHeld ?_ ?_
   rotate_left
   · rintro w' ⟨s0, s1⟩
     go_simp
     with_reducible rfl
   rotate_left
   · simp only [Act.put, sa, sb, sc, i64_w, i32_w]
     rfl
   refine pure_ (i := 3) (N := some 15) (v := ?_) (a' := ?_) #[true, true, true, true, true, true, false, false, false, false, false] rfl rfl (any_of HT_.out (by kernel_rfl)) (fun _ _ _ h => h) (Or.inl ⟨by rfl, ?_⟩) ?_ ?_
   rotate_left
   · intro w'; go_simp
     with_reducible rfl
   rotate_left
   · simp only [Act.put, sa, sb, sc, i64_w, i32_w]
     rfl
   refine take_ (i := 6) (N := some 18) (v := ?_) (a' := ?_) #[true, true, true, true, true, true, true, false, false, false, false] rfl rfl (take_ofW HT_.out HW_.out (by kernel_rfl)) (fun _ _ _ h => h) (Or.inl ⟨by rfl, ?_⟩) hHeld ?_ ?_
   rotate_left
   · rintro w' ⟨s0, s1⟩
     go_simp
     with_reducible rfl
   rotate_left
   · simp only [Act.put, sa, sb, sc, i64_w, i32_w]
     rfl
   refine pure_ (i := 7) (N := some 19) (v := ?_) (a' := ?_) #[true, true, true, true, true, true, true, true, false, false, false] rfl rfl (any_of HT_.out (by kernel_rfl)) (fun _ _ _ h => h) (Or.inl ⟨by rfl, ?_⟩) ?_ ?_
   rotate_left
   · intro w'; go_simp
     with_reducible rfl
   rotate_left
   · simp only [Act.put, sa, sb, sc, i64_w, i32_w]
     rfl
   refine pure_ (i := 8) (N := some 20) (v := ?_) (a' := ?_) #[true, true, true, true, true, true, true, true, true, false, false] rfl rfl (any_of HT_.out (by kernel_rfl)) (fun _ _ _ h => h) (Or.inl ⟨by rfl, ?_⟩) ?_ ?_
   rotate_left
   · intro w'; go_simp
     with_reducible rfl
   rotate_left
   · simp only [Act.put, sa, sb, sc, i64_w, i32_w]
     rfl
   refine one_ (i := 9) (N := some 4) #[true, true, true, true, true, true, true, true, true, true, false] rfl rfl (one_of HT_.out (by kernel_rfl)) (by decide) (fun K hK => ?_)
   refine box_step ?hg (N := 4) ?hd (cs := #[.int .i64 0, .int .i64 0, .slice none 0 0, .slice none 0 0, .int .i64 0]) (t := 49) ?hr ?_; (case hd => rfl); (case hg => rfl); (case hr => exact xq11)
   intro gb767 hg w93 hbox hb; have BK767 := ak hbox; have GW767 := leA (w := w) hg; have GE767 := leA (w := w) hg; have NB764_767 := neL hg BK764; have NB767_764 := neG hg BK764; replace BK764 := bB BK764 hb; replace HB := bS hb; clear hb hbox hg; refine hK.out _ _ ⟨((HB.out.cell (World.block_lt_of_cell? w _ hw765_0)).trans hw765_0), ((HB.out.cell (World.block_lt_of_cell? w _ hw766_0)).trans hw766_0)⟩ (fun hHeld => ?_)
   clear hK K; refine norm_ (a' := ?_) ?_ ?_
   rotate_left
   · show Act.put _ (some 4) _ = _
     simp only [Act.put, sa, sb, sc, i64_w, i32_w]
     rfl
   refine one_ (i := 10) (N := none) #[true, true, true, true, true, true, true, true, true, true, true] rfl rfl (one_of HT_.out (by kernel_rfl)) (by decide) (fun K hK => ?_)
   have hs94 : w93.cell? ⟨gb767, 0, none⟩ = some (.int .i64 0) := (blk_cell BK767.out 0).trans rfl; have hfs94 := blk_frozen BK767.out 0; have hns94_0 := NB764_767.out; have hms94_0 := NB767_764.out; have hs95 : w93.cell? ⟨gb767, 1, none⟩ = some (.int .i64 0) := (blk_cell BK767.out 1).trans rfl; have hfs95 := blk_frozen BK767.out 1; have hns95_0 := NB764_767.out; have hms95_0 := NB767_764.out; have hs96 : w93.cell? ⟨gb767, 2, none⟩ = some (.slice none 0 0) := (blk_cell BK767.out 2).trans rfl; have hfs96 := blk_frozen BK767.out 2; have hns96_0 := NB764_767.out; have hms96_0 := NB767_764.out; have hs97 : w93.cell? ⟨gb767, 3, none⟩ = some (.slice none 0 0) := (blk_cell BK767.out 3).trans rfl; have hfs97 := blk_frozen BK767.out 3; have hns97_0 := NB764_767.out; have hms97_0 := NB767_764.out; have hs98 : w93.cell? ⟨gb767, 4, none⟩ = some (.int .i64 0) := (blk_cell BK767.out 4).trans rfl; have hfs98 := blk_frozen BK767.out 4; have hns98_0 := NB764_767.out; have hms98_0 := NB767_764.out; refine skip_ (w1 := ?_) (by rfl) rfl ?_ ?_
   rotate_left
   · go_simp
     rfl
   refine hK.out _ _ ⟨((cell_far (p := ⟨gb767, _, none⟩) xq13 _).trans (((cell_far (p := ⟨gb767, _, none⟩) xq13 _).trans (((cell_far (p := ⟨gb767, _, none⟩) xq13 _).trans (((cell_far (p := ⟨gb767, _, none⟩) xq13 _).trans (((cell_far (p := ⟨gb767, _, none⟩) xq13 _).trans (hHeld.1)))))))))), ((cell_far (p := ⟨gb767, _, none⟩) xq14 _).trans (((cell_far (p := ⟨gb767, _, none⟩) xq14 _).trans (((cell_far (p := ⟨gb767, _, none⟩) xq14 _).trans (((cell_far (p := ⟨gb767, _, none⟩) xq14 _).trans (((cell_far (p := ⟨gb767, _, none⟩) xq14 _).trans (hHeld.2))))))))))⟩ (fun hHeld => ?_)
   clear hK K; refine done_ (done_of HT_.out (by kernel_rfl)) ?_
   try go_wp2_with (first | ((with_reducible refine gate_callee (f := 92) rfl ?_); refine goB 23 Try.func92 #[.slice (some ad765) l0.length c0, .int .i64 2] rfl ?_; (with_reducible refine (spec_TakeNumber.calls k _ _ l0 2 t768 t769 true _ ?side1 ?side2 A7.out).mono ?_); (case side1 => exact Kd.C_below HR0.out belA); (case side2 => exact HC0.out); rintro e w99 ⟨rfl, hb⟩; refine ⟨_, rfl, ?_⟩; replace BK764 := ak (blk_below (g := gb764) (o := .cells #[.int .i64 0, .int .i64 0, .slice none 0 0, .slice none 0 0, .int .i64 0] 49 (0, 0)) xq32 hb); replace BK767 := ak (blk_below (g := gb767) (o := .cells #[.int .i64 (wrap64 (rd l0 0)), .int .i64 (wrap64 (rd l0 1)), .slice none 0 0, .slice none 0 0, .int .i64 0] 49 (0, 0)) xq33 hb); replace HB := bS hb; (try clear hb); have hnb100 := NB767_764.out; have hnc100 := NB764_767.out; obtain ⟨_, _, _, _, _, _, _, _, _, _⟩ := cel5 BK767) | ((with_reducible refine gate_callee (f := 93) rfl ?_); refine goB 35 Try.func93 #[.slice (some ad765) l0.length c0, .int .i64 t769] rfl ?_; (with_reducible refine (spec_l10TakeList.calls k _ _ l0 t769 t771 t772 false _ ?side1 ?side2 A9.out).mono ?_); (case side1 => exact Kd.C_below HR0.out belA); (case side2 => exact HC0.out); rintro e w102 ⟨v774, rfl, ho0, hb⟩; refine ⟨_, rfl, ?_⟩; have HO775 := rL ho0; replace BK764 := ak (blk_below (g := gb764) (o := .cells #[.int .i64 0, .int .i64 0, .slice none 0 0, .slice none 0 0, .int .i64 0] 49 (0, 0)) xq26 hb); replace BK767 := ak (blk_below (g := gb767) (o := .cells #[.int .i64 (wrap64 (rd l0 0)), .int .i64 (wrap64 (rd l0 1)), .slice none 0 0, .slice none 0 0, .int .i64 t768] 49 (0, 0)) xq43 hb); replace HB := bS hb; (try clear hb ho0); obtain ⟨Ao103, co103, eo103⟩ := Kd.R_slice HO775.out; subst eo103; obtain ⟨_, _, _, _, _, _, _, _, _, _⟩ := cel5 BK767; obtain ⟨_, _, _, _, _, _, _, _, _, _⟩ := cel5 BK764))
   refine bodyPost_ret (results_ct rfl _ _ gb764 49 #[.int .i64 0, .int .i64 0, .slice none 0 0, .slice none 0 0, .int .i64 0] (0, 0) _ rfl xq66 Try.underlying49 rfl (by kernel_rfl)) rfl ?_
   exact ⟨_, _, xq6, xq16, xq16, belA⟩
 subst c10; have H1 : ((spec_l10TakeList.f k l0 t772).bind fun bt776 => (if bt776.2.2 = true then (if bt776.2.1 = (l0.length : Int) then ((spec_JobOk.f k (wrap64 (rd l0 0)) (wrap64 (rd l0 1)) t771 bt776.1 t768).bind fun t781 => (if t781 = true then (some (wrap64 (rd l0 0), wrap64 (rd l0 1), t771, bt776.1, t768, true)) else (some (0, 0, ([] : List Int), ([] : List Int), 0, false)))) else (some (0, 0, ([] : List Int), ([] : List Int), 0, false))) else (some (0, 0, ([] : List Int), ([] : List Int), 0, false)))) = some (r1, r2, r3, r4, r5, r6) := by rw [if_pos rfl] at H; exact H
 clear H; have H := H1; clear H1; replace H := Option.bind_eq_some_iff.mp H; obtain ⟨⟨t776, t777, t778⟩, A110, H⟩ := H; (try dsimp only at H); have A11 := ak A110; clear A110
 by_cases c12 : t778 = true; rotate_left
 · replace c12 := Bool.eq_false_iff.mpr c12; subst c12; have H1 : (some (0, 0, ([] : List Int), ([] : List Int), 0, false)) = some (r1, r2, r3, r4, r5, r6) := by rw [if_neg (show ¬ (false = true) by decide)] at H; exact H
   clear H; have H := H1; clear H1; simp only [Option.some.injEq, Prod.mk.injEq] at H; obtain ⟨rfl, rfl, rfl, rfl, rfl, rfl⟩ := H; go_enter Try.func51, Try.ntmps51
   try go_wp2_with (first | ((with_reducible refine gate_dst (N := 2) rfl ?_); (try (refine gate_guard (by rfl) ?_; dsimp only)); refine boxA 2 #[.int .i64 0, .int .i64 0, .slice none 0 0, .slice none 0 0, .int .i64 0] 49 ?_; intro gb764 hg w73 hbox hb; have BK764 := ak hbox; have GW764 := leA (w := w) hg; have GE764 := leA (w := w) hg; replace HB := bS hb; clear hb hbox hg))
   replace BK764 := ak (blk_drew BK764.out); replace HB := ak (below_drew1 HB.out); have p765 : 0 ≤ (0 : Int) := (by omega); have q765 : 0 < (l0.length : Int) := odA; obtain ⟨ad765, e765, hx765_0⟩ := Kd.at_int HR0.out 0 p765 q765; have hw765_0 := hx765_0; (try rw [show ((0 : Int)).toNat = 0 from rfl] at hw765_0)
   (try rw [show 0 * 1 = 0 from rfl] at hw765_0)
   (try rw [Addr.add_zero'] at hw765_0)
   cases e765
   have qi765 : (0 < l0.length) = True := eq_true (by omega); (try rw [show ((0 : Int)).toNat = 0 from rfl] at hx765_0)
   (try rw [Addr.add_zero'] at hx765_0)
   try replace hx765_0 := cB HB hx765_0
   replace p765 := eq_true p765; replace q765 := eq_true q765; have p766 : 0 ≤ (1 : Int) := (by omega); have q766 : 1 < (l0.length : Int) := odA; obtain ⟨ad766, e766, hx766_0⟩ := Kd.at_int HR0.out 1 p766 q766; have hw766_0 := hx766_0; (try rw [show ((1 : Int)).toNat = 1 from rfl] at hw766_0)
   (try rw [show 1 * 1 = 1 from rfl] at hw766_0)
   (try simp only [Nat.reduceMul, Nat.reduceEqDiff, Go.Addr.add, ↓reduceIte] at hw766_0)
   obtain rfl : ad765 = ad766 := (by injection e766); (try simp only [show (1 : Int).toNat = 1 from rfl, Nat.reduceMul, Nat.reduceEqDiff, Go.Addr.add, ↓reduceIte] at hx766_0)
   have qi766 : (1 < l0.length) = True := eq_true (by omega); (try rw [show ((1 : Int)).toNat = 1 from rfl] at hx766_0)
   try replace hx766_0 := cB HB hx766_0
   replace p766 := eq_true p766; replace q766 := eq_true q766; refine start_ (n := 11) (S := fun w' => w'.cell? ad765 = some (.int .u8 (rd l0 0)) ∧ w'.cell? ⟨ad765.block, ad765.off + 1, none⟩ = some (.int .u8 (rd l0 1))) (ds := []) #[false, false, false, false, false, false, false, false, false, false, false] (by kernel_rfl) rfl rfl ⟨((HB.out.cell (World.block_lt_of_cell? w _ hw765_0)).trans hw765_0), ((HB.out.cell (World.block_lt_of_cell? w _ hw766_0)).trans hw766_0)⟩ (fun hHeld => ?_); refine with_tabW spec_DecodeJob.tab3 spec_DecodeJob.bits3 (fun HT_ HW_ => ?_)
   generalize w73.drew = w74 at BK764 HB hx765_0 hx766_0 hHeld ⊢
   refine pure_ (i := 0) (N := some 12) (v := ?_) (a' := ?_) #[true, false, false, false, false, false, false, false, false, false, false] rfl rfl (any_of HT_.out (by kernel_rfl)) (fun _ _ _ h => h) (Or.inl ⟨by rfl, ?_⟩) ?_ ?_
   rotate_left
   · intro w'; go_simp
     with_reducible rfl
   rotate_left
   · simp only [Act.put, sa, sb, sc, i64_w, i32_w]
     rfl
   refine pure_ (i := 1) (N := some 13) (v := ?_) (a' := ?_) #[true, true, false, false, false, false, false, false, false, false, false] rfl rfl (any_of HT_.out (by kernel_rfl)) (fun _ _ _ h => h) (Or.inl ⟨by rfl, ?_⟩) ?_ ?_
   rotate_left
   · intro w'; go_simp
     with_reducible rfl
   rotate_left
   · simp only [Act.put, sa, sb, sc, i64_w, i32_w]
     rfl
   refine pure_ (i := 4) (N := some 16) (v := ?_) (a' := ?_) #[true, true, false, false, true, false, false, false, false, false, false] rfl rfl (any_of HT_.out (by kernel_rfl)) (fun _ _ _ h => h) (Or.inl ⟨by rfl, ?_⟩) ?_ ?_
   rotate_left
   · intro w'; go_simp
     with_reducible rfl
   rotate_left
   · simp only [Act.put, sa, sb, sc, i64_w, i32_w]
     rfl
   refine pure_ (i := 5) (N := some 17) (v := ?_) (a' := ?_) #[true, true, false, false, true, true, false, false, false, false, false] rfl rfl (any_of HT_.out (by kernel_rfl)) (fun _ _ _ h => h) (Or.inl ⟨by rfl, ?_⟩) ?_ ?_
   rotate_left
   · intro w'; go_simp
     with_reducible rfl
   rotate_left
   · simp only [Act.put, sa, sb, sc, i64_w, i32_w]
     rfl
   refine take_ (i := 2) (N := some 14) (v := ?_) (a' := ?_) #[true, true, true, false, true, true, false, false, false, false, false] rfl rfl (take_ofW HT_.out HW_.out (by kernel_rfl)) (fun _ _ _ h => h) (Or.inl ⟨by rfl, ?_⟩) hHeld ?_ ?_
   rotate_left
   · rintro w' ⟨s0, s1⟩
     go_simp
     with_reducible rfl
   rotate_left
   · simp only [Act.put, sa, sb, sc, i64_w, i32_w]
     rfl
   refine pure_ (i := 3) (N := some 15) (v := ?_) (a' := ?_) #[true, true, true, true, true, true, false, false, false, false, false] rfl rfl (any_of HT_.out (by kernel_rfl)) (fun _ _ _ h => h) (Or.inl ⟨by rfl, ?_⟩) ?_ ?_
   rotate_left
   · intro w'; go_simp
     with_reducible rfl
   rotate_left
   · simp only [Act.put, sa, sb, sc, i64_w, i32_w]
     rfl
   refine take_ (i := 6) (N := some 18) (v := ?_) (a' := ?_) #[true, true, true, true, true, true, true, false, false, false, false] rfl rfl (take_ofW HT_.out HW_.out (by kernel_rfl)) (fun _ _ _ h => h) (Or.inl ⟨by rfl, ?_⟩) hHeld ?_ ?_
   rotate_left
   · rintro w' ⟨s0, s1⟩
     go_simp
     with_reducible rfl
   rotate_left
   · simp only [Act.put, sa, sb, sc, i64_w, i32_w]
     rfl
   refine pure_ (i := 7) (N := some 19) (v := ?_) (a' := ?_) #[true, true, true, true, true, true, true, true, false, false, false] rfl rfl (any_of HT_.out (by kernel_rfl)) (fun _ _ _ h => h) (Or.inl ⟨by rfl, ?_⟩) ?_ ?_
   rotate_left
   · intro w'; go_simp
     with_reducible rfl
   rotate_left
   · simp only [Act.put, sa, sb, sc, i64_w, i32_w]
     rfl
   refine pure_ (i := 8) (N := some 20) (v := ?_) (a' := ?_) #[true, true, true, true, true, true, true, true, true, false, false] rfl rfl (any_of HT_.out (by kernel_rfl)) (fun _ _ _ h => h) (Or.inl ⟨by rfl, ?_⟩) ?_ ?_
   rotate_left
   · intro w'; go_simp
     with_reducible rfl
   rotate_left
   · simp only [Act.put, sa, sb, sc, i64_w, i32_w]
     rfl
   refine one_ (i := 9) (N := some 4) #[true, true, true, true, true, true, true, true, true, true, false] rfl rfl (one_of HT_.out (by kernel_rfl)) (by decide) (fun K hK => ?_)
   refine box_step ?hg (N := 4) ?hd (cs := #[.int .i64 0, .int .i64 0, .slice none 0 0, .slice none 0 0, .int .i64 0]) (t := 49) ?hr ?_; (case hd => rfl); (case hg => rfl); (case hr => exact xq11)
   intro gb767 hg w75 hbox hb; have BK767 := ak hbox; have GW767 := leA (w := w) hg; have GE767 := leA (w := w) hg; have NB764_767 := neL hg BK764; have NB767_764 := neG hg BK764; replace BK764 := bB BK764 hb; replace HB := bS hb; clear hb hbox hg; refine hK.out _ _ ⟨((HB.out.cell (World.block_lt_of_cell? w _ hw765_0)).trans hw765_0), ((HB.out.cell (World.block_lt_of_cell? w _ hw766_0)).trans hw766_0)⟩ (fun hHeld => ?_)
   clear hK K; refine norm_ (a' := ?_) ?_ ?_
   rotate_left
   · show Act.put _ (some 4) _ = _
     simp only [Act.put, sa, sb, sc, i64_w, i32_w]
     rfl
   refine one_ (i := 10) (N := none) #[true, true, true, true, true, true, true, true, true, true, true] rfl rfl (one_of HT_.out (by kernel_rfl)) (by decide) (fun K hK => ?_)
   have hs76 : w75.cell? ⟨gb767, 0, none⟩ = some (.int .i64 0) := (blk_cell BK767.out 0).trans rfl; have hfs76 := blk_frozen BK767.out 0; have hns76_0 := NB764_767.out; have hms76_0 := NB767_764.out; have hs77 : w75.cell? ⟨gb767, 1, none⟩ = some (.int .i64 0) := (blk_cell BK767.out 1).trans rfl; have hfs77 := blk_frozen BK767.out 1; have hns77_0 := NB764_767.out; have hms77_0 := NB767_764.out; have hs78 : w75.cell? ⟨gb767, 2, none⟩ = some (.slice none 0 0) := (blk_cell BK767.out 2).trans rfl; have hfs78 := blk_frozen BK767.out 2; have hns78_0 := NB764_767.out; have hms78_0 := NB767_764.out; have hs79 : w75.cell? ⟨gb767, 3, none⟩ = some (.slice none 0 0) := (blk_cell BK767.out 3).trans rfl; have hfs79 := blk_frozen BK767.out 3; have hns79_0 := NB764_767.out; have hms79_0 := NB767_764.out; have hs80 : w75.cell? ⟨gb767, 4, none⟩ = some (.int .i64 0) := (blk_cell BK767.out 4).trans rfl; have hfs80 := blk_frozen BK767.out 4; have hns80_0 := NB764_767.out; have hms80_0 := NB767_764.out; refine skip_ (w1 := ?_) (by rfl) rfl ?_ ?_
   rotate_left
   · go_simp
     rfl
   refine hK.out _ _ ⟨((cell_far (p := ⟨gb767, _, none⟩) xq13 _).trans (((cell_far (p := ⟨gb767, _, none⟩) xq13 _).trans (((cell_far (p := ⟨gb767, _, none⟩) xq13 _).trans (((cell_far (p := ⟨gb767, _, none⟩) xq13 _).trans (((cell_far (p := ⟨gb767, _, none⟩) xq13 _).trans (hHeld.1)))))))))), ((cell_far (p := ⟨gb767, _, none⟩) xq14 _).trans (((cell_far (p := ⟨gb767, _, none⟩) xq14 _).trans (((cell_far (p := ⟨gb767, _, none⟩) xq14 _).trans (((cell_far (p := ⟨gb767, _, none⟩) xq14 _).trans (((cell_far (p := ⟨gb767, _, none⟩) xq14 _).trans (hHeld.2))))))))))⟩ (fun hHeld => ?_)
   clear hK K; refine done_ (done_of HT_.out (by kernel_rfl)) ?_
   try go_wp2_with (first | ((with_reducible refine gate_callee (f := 92) rfl ?_); refine goB 23 Try.func92 #[.slice (some ad765) l0.length c0, .int .i64 2] rfl ?_; (with_reducible refine (spec_TakeNumber.calls k _ _ l0 2 t768 t769 true _ ?side1 ?side2 A7.out).mono ?_); (case side1 => exact Kd.C_below HR0.out belA); (case side2 => exact HC0.out); rintro e w81 ⟨rfl, hb⟩; refine ⟨_, rfl, ?_⟩; replace BK764 := ak (blk_below (g := gb764) (o := .cells #[.int .i64 0, .int .i64 0, .slice none 0 0, .slice none 0 0, .int .i64 0] 49 (0, 0)) xq32 hb); replace BK767 := ak (blk_below (g := gb767) (o := .cells #[.int .i64 (wrap64 (rd l0 0)), .int .i64 (wrap64 (rd l0 1)), .slice none 0 0, .slice none 0 0, .int .i64 0] 49 (0, 0)) xq33 hb); replace HB := bS hb; (try clear hb); have hnb82 := NB767_764.out; have hnc82 := NB764_767.out; obtain ⟨_, _, _, _, _, _, _, _, _, _⟩ := cel5 BK767) | ((with_reducible refine gate_callee (f := 93) rfl ?_); refine goB 35 Try.func93 #[.slice (some ad765) l0.length c0, .int .i64 t769] rfl ?_; (with_reducible refine (spec_l10TakeList.calls k _ _ l0 t769 t771 t772 true _ ?side1 ?side2 A9.out).mono ?_); (case side1 => exact Kd.C_below HR0.out belA); (case side2 => exact HC0.out); rintro e w84 ⟨v774, rfl, ho0, hb⟩; refine ⟨_, rfl, ?_⟩; have HO775 := rL ho0; replace BK764 := ak (blk_below (g := gb764) (o := .cells #[.int .i64 0, .int .i64 0, .slice none 0 0, .slice none 0 0, .int .i64 0] 49 (0, 0)) xq26 hb); replace BK767 := ak (blk_below (g := gb767) (o := .cells #[.int .i64 (wrap64 (rd l0 0)), .int .i64 (wrap64 (rd l0 1)), .slice none 0 0, .slice none 0 0, .int .i64 t768] 49 (0, 0)) xq43 hb); replace HB := bS hb; (try clear hb ho0); obtain ⟨Ao85, co85, eo85⟩ := Kd.R_slice HO775.out; subst eo85; obtain ⟨_, _, _, _, _, _, _, _, _, _⟩ := cel5 BK767) | ((with_reducible refine gate_callee (f := 93) rfl ?_); refine goB 46 Try.func93 #[.slice (some ad765) l0.length c0, .int .i64 t772] rfl ?_; (with_reducible refine (spec_l10TakeList.calls k _ _ l0 t772 t776 t777 false _ ?side1 ?side2 A11.out).mono ?_); (case side1 => exact Kd.C_below HR0.out belA); (case side2 => exact HC0.out); rintro e w87 ⟨v779, rfl, ho0, hb⟩; refine ⟨_, rfl, ?_⟩; have HO780 := rL (Kd.R_new' ho0 (Kd.R_lt (rG HO775 BK767))); replace HO775 := ak (Kd.R_elder' (rG HO775 BK767) (Kd.R_base ho0) hb); replace BK764 := ak (blk_below (g := gb764) (o := .cells #[.int .i64 0, .int .i64 0, .slice none 0 0, .slice none 0 0, .int .i64 0] 49 (0, 0)) xq26 hb); replace BK767 := ak (blk_below (g := gb767) (o := .cells #[.int .i64 (wrap64 (rd l0 0)), .int .i64 (wrap64 (rd l0 1)), .slice Ao85 t771.length co85, .slice none 0 0, .int .i64 t768] 49 (0, 0)) xq54 hb); replace HB := bS hb; (try clear hb ho0); obtain ⟨Ao88, co88, eo88⟩ := Kd.R_slice HO780.out; subst eo88; obtain ⟨_, _, _, _, _, _, _, _, _, _⟩ := cel5 BK767; obtain ⟨_, _, _, _, _, _, _, _, _, _⟩ := cel5 BK764))
   refine bodyPost_ret (results_ct rfl _ _ gb764 49 #[.int .i64 0, .int .i64 0, .slice none 0 0, .slice none 0 0, .int .i64 0] (0, 0) _ rfl xq66 Try.underlying49 rfl (by kernel_rfl)) rfl ?_
   exact ⟨_, _, xq6, xq16, xq16, belA⟩
 subst c12; have H1 : (if t777 = (l0.length : Int) then ((spec_JobOk.f k (wrap64 (rd l0 0)) (wrap64 (rd l0 1)) t771 t776 t768).bind fun t781 => (if t781 = true then (some (wrap64 (rd l0 0), wrap64 (rd l0 1), t771, t776, t768, true)) else (some (0, 0, ([] : List Int), ([] : List Int), 0, false)))) else (some (0, 0, ([] : List Int), ([] : List Int), 0, false))) = some (r1, r2, r3, r4, r5, r6) := by rw [if_pos rfl] at H; exact H
 clear H; have H := H1; clear H1
 by_cases c13 : t777 = (l0.length : Int); rotate_left
 · rw [if_neg c13] at H; have c13b0 : (t777 == (l0.length : Int)) = false := beq_eq_false_iff_ne.mpr c13; have c13b1 : (t777 != (l0.length : Int)) = true := bne_iff_ne.mpr c13; simp only [Option.some.injEq, Prod.mk.injEq] at H; obtain ⟨rfl, rfl, rfl, rfl, rfl, rfl⟩ := H; go_enter Try.func51, Try.ntmps51
   try go_wp2_with (first | ((with_reducible refine gate_dst (N := 2) rfl ?_); (try (refine gate_guard (by rfl) ?_; dsimp only)); refine boxA 2 #[.int .i64 0, .int .i64 0, .slice none 0 0, .slice none 0 0, .int .i64 0] 49 ?_; intro gb764 hg w55 hbox hb; have BK764 := ak hbox; have GW764 := leA (w := w) hg; have GE764 := leA (w := w) hg; replace HB := bS hb; clear hb hbox hg))
   replace BK764 := ak (blk_drew BK764.out); replace HB := ak (below_drew1 HB.out); have p765 : 0 ≤ (0 : Int) := (by omega); have q765 : 0 < (l0.length : Int) := odA; obtain ⟨ad765, e765, hx765_0⟩ := Kd.at_int HR0.out 0 p765 q765; have hw765_0 := hx765_0; (try rw [show ((0 : Int)).toNat = 0 from rfl] at hw765_0)
   (try rw [show 0 * 1 = 0 from rfl] at hw765_0)
   (try rw [Addr.add_zero'] at hw765_0)
   cases e765
   have qi765 : (0 < l0.length) = True := eq_true (by omega); (try rw [show ((0 : Int)).toNat = 0 from rfl] at hx765_0)
   (try rw [Addr.add_zero'] at hx765_0)
   try replace hx765_0 := cB HB hx765_0
   replace p765 := eq_true p765; replace q765 := eq_true q765; have p766 : 0 ≤ (1 : Int) := (by omega); have q766 : 1 < (l0.length : Int) := odA; obtain ⟨ad766, e766, hx766_0⟩ := Kd.at_int HR0.out 1 p766 q766; have hw766_0 := hx766_0; (try rw [show ((1 : Int)).toNat = 1 from rfl] at hw766_0)
   (try rw [show 1 * 1 = 1 from rfl] at hw766_0)
   (try simp only [Nat.reduceMul, Nat.reduceEqDiff, Go.Addr.add, ↓reduceIte] at hw766_0)
   obtain rfl : ad765 = ad766 := (by injection e766); (try simp only [show (1 : Int).toNat = 1 from rfl, Nat.reduceMul, Nat.reduceEqDiff, Go.Addr.add, ↓reduceIte] at hx766_0)
   have qi766 : (1 < l0.length) = True := eq_true (by omega); (try rw [show ((1 : Int)).toNat = 1 from rfl] at hx766_0)
   try replace hx766_0 := cB HB hx766_0
   replace p766 := eq_true p766; replace q766 := eq_true q766; refine start_ (n := 11) (S := fun w' => w'.cell? ad765 = some (.int .u8 (rd l0 0)) ∧ w'.cell? ⟨ad765.block, ad765.off + 1, none⟩ = some (.int .u8 (rd l0 1))) (ds := []) #[false, false, false, false, false, false, false, false, false, false, false] (by kernel_rfl) rfl rfl ⟨((HB.out.cell (World.block_lt_of_cell? w _ hw765_0)).trans hw765_0), ((HB.out.cell (World.block_lt_of_cell? w _ hw766_0)).trans hw766_0)⟩ (fun hHeld => ?_); refine with_tabW spec_DecodeJob.tab3 spec_DecodeJob.bits3 (fun HT_ HW_ => ?_)
   generalize w55.drew = w56 at BK764 HB hx765_0 hx766_0 hHeld ⊢
   refine pure_ (i := 0) (N := some 12) (v := ?_) (a' := ?_) #[true, false, false, false, false, false, false, false, false, false, false] rfl rfl (any_of HT_.out (by kernel_rfl)) (fun _ _ _ h => h) (Or.inl ⟨by rfl, ?_⟩) ?_ ?_
   rotate_left
   · intro w'; go_simp
     with_reducible rfl
   rotate_left
   · simp only [Act.put, sa, sb, sc, i64_w, i32_w]
     rfl
   refine pure_ (i := 1) (N := some 13) (v := ?_) (a' := ?_) #[true, true, false, false, false, false, false, false, false, false, false] rfl rfl (any_of HT_.out (by kernel_rfl)) (fun _ _ _ h => h) (Or.inl ⟨by rfl, ?_⟩) ?_ ?_
   rotate_left
   · intro w'; go_simp
     with_reducible rfl
   rotate_left
   · simp only [Act.put, sa, sb, sc, i64_w, i32_w]
     rfl
   refine pure_ (i := 4) (N := some 16) (v := ?_) (a' := ?_) #[true, true, false, false, true, false, false, false, false, false, false] rfl rfl (any_of HT_.out (by kernel_rfl)) (fun _ _ _ h => h) (Or.inl ⟨by rfl, ?_⟩) ?_ ?_
   rotate_left
   · intro w'; go_simp
     with_reducible rfl
   rotate_left
   · simp only [Act.put, sa, sb, sc, i64_w, i32_w]
     rfl
   refine pure_ (i := 5) (N := some 17) (v := ?_) (a' := ?_) #[true, true, false, false, true, true, false, false, false, false, false] rfl rfl (any_of HT_.out (by kernel_rfl)) (fun _ _ _ h => h) (Or.inl ⟨by rfl, ?_⟩) ?_ ?_
   rotate_left
   · intro w'; go_simp
     with_reducible rfl
   rotate_left
   · simp only [Act.put, sa, sb, sc, i64_w, i32_w]
     rfl
   refine take_ (i := 2) (N := some 14) (v := ?_) (a' := ?_) #[true, true, true, false, true, true, false, false, false, false, false] rfl rfl (take_ofW HT_.out HW_.out (by kernel_rfl)) (fun _ _ _ h => h) (Or.inl ⟨by rfl, ?_⟩) hHeld ?_ ?_
   rotate_left
   · rintro w' ⟨s0, s1⟩
     go_simp
     with_reducible rfl
   rotate_left
   · simp only [Act.put, sa, sb, sc, i64_w, i32_w]
     rfl
   refine pure_ (i := 3) (N := some 15) (v := ?_) (a' := ?_) #[true, true, true, true, true, true, false, false, false, false, false] rfl rfl (any_of HT_.out (by kernel_rfl)) (fun _ _ _ h => h) (Or.inl ⟨by rfl, ?_⟩) ?_ ?_
   rotate_left
   · intro w'; go_simp
     with_reducible rfl
   rotate_left
   · simp only [Act.put, sa, sb, sc, i64_w, i32_w]
     rfl
   refine take_ (i := 6) (N := some 18) (v := ?_) (a' := ?_) #[true, true, true, true, true, true, true, false, false, false, false] rfl rfl (take_ofW HT_.out HW_.out (by kernel_rfl)) (fun _ _ _ h => h) (Or.inl ⟨by rfl, ?_⟩) hHeld ?_ ?_
   rotate_left
   · rintro w' ⟨s0, s1⟩
     go_simp
     with_reducible rfl
   rotate_left
   · simp only [Act.put, sa, sb, sc, i64_w, i32_w]
     rfl
   refine pure_ (i := 7) (N := some 19) (v := ?_) (a' := ?_) #[true, true, true, true, true, true, true, true, false, false, false] rfl rfl (any_of HT_.out (by kernel_rfl)) (fun _ _ _ h => h) (Or.inl ⟨by rfl, ?_⟩) ?_ ?_
   rotate_left
   · intro w'; go_simp
     with_reducible rfl
   rotate_left
   · simp only [Act.put, sa, sb, sc, i64_w, i32_w]
     rfl
   refine pure_ (i := 8) (N := some 20) (v := ?_) (a' := ?_) #[true, true, true, true, true, true, true, true, true, false, false] rfl rfl (any_of HT_.out (by kernel_rfl)) (fun _ _ _ h => h) (Or.inl ⟨by rfl, ?_⟩) ?_ ?_
   rotate_left
   · intro w'; go_simp
     with_reducible rfl
   rotate_left
   · simp only [Act.put, sa, sb, sc, i64_w, i32_w]
     rfl
   refine one_ (i := 9) (N := some 4) #[true, true, true, true, true, true, true, true, true, true, false] rfl rfl (one_of HT_.out (by kernel_rfl)) (by decide) (fun K hK => ?_)
   refine box_step ?hg (N := 4) ?hd (cs := #[.int .i64 0, .int .i64 0, .slice none 0 0, .slice none 0 0, .int .i64 0]) (t := 49) ?hr ?_; (case hd => rfl); (case hg => rfl); (case hr => exact xq11)
   intro gb767 hg w57 hbox hb; have BK767 := ak hbox; have GW767 := leA (w := w) hg; have GE767 := leA (w := w) hg; have NB764_767 := neL hg BK764; have NB767_764 := neG hg BK764; replace BK764 := bB BK764 hb; replace HB := bS hb; clear hb hbox hg; refine hK.out _ _ ⟨((HB.out.cell (World.block_lt_of_cell? w _ hw765_0)).trans hw765_0), ((HB.out.cell (World.block_lt_of_cell? w _ hw766_0)).trans hw766_0)⟩ (fun hHeld => ?_)
   clear hK K; refine norm_ (a' := ?_) ?_ ?_
   rotate_left
   · show Act.put _ (some 4) _ = _
     simp only [Act.put, sa, sb, sc, i64_w, i32_w]
     rfl
   refine one_ (i := 10) (N := none) #[true, true, true, true, true, true, true, true, true, true, true] rfl rfl (one_of HT_.out (by kernel_rfl)) (by decide) (fun K hK => ?_)
   have hs58 : w57.cell? ⟨gb767, 0, none⟩ = some (.int .i64 0) := (blk_cell BK767.out 0).trans rfl; have hfs58 := blk_frozen BK767.out 0; have hns58_0 := NB764_767.out; have hms58_0 := NB767_764.out; have hs59 : w57.cell? ⟨gb767, 1, none⟩ = some (.int .i64 0) := (blk_cell BK767.out 1).trans rfl; have hfs59 := blk_frozen BK767.out 1; have hns59_0 := NB764_767.out; have hms59_0 := NB767_764.out; have hs60 : w57.cell? ⟨gb767, 2, none⟩ = some (.slice none 0 0) := (blk_cell BK767.out 2).trans rfl; have hfs60 := blk_frozen BK767.out 2; have hns60_0 := NB764_767.out; have hms60_0 := NB767_764.out; have hs61 : w57.cell? ⟨gb767, 3, none⟩ = some (.slice none 0 0) := (blk_cell BK767.out 3).trans rfl; have hfs61 := blk_frozen BK767.out 3; have hns61_0 := NB764_767.out; have hms61_0 := NB767_764.out; have hs62 : w57.cell? ⟨gb767, 4, none⟩ = some (.int .i64 0) := (blk_cell BK767.out 4).trans rfl; have hfs62 := blk_frozen BK767.out 4; have hns62_0 := NB764_767.out; have hms62_0 := NB767_764.out; refine skip_ (w1 := ?_) (by rfl) rfl ?_ ?_
   rotate_left
   · go_simp
     rfl
   refine hK.out _ _ ⟨((cell_far (p := ⟨gb767, _, none⟩) xq13 _).trans (((cell_far (p := ⟨gb767, _, none⟩) xq13 _).trans (((cell_far (p := ⟨gb767, _, none⟩) xq13 _).trans (((cell_far (p := ⟨gb767, _, none⟩) xq13 _).trans (((cell_far (p := ⟨gb767, _, none⟩) xq13 _).trans (hHeld.1)))))))))), ((cell_far (p := ⟨gb767, _, none⟩) xq14 _).trans (((cell_far (p := ⟨gb767, _, none⟩) xq14 _).trans (((cell_far (p := ⟨gb767, _, none⟩) xq14 _).trans (((cell_far (p := ⟨gb767, _, none⟩) xq14 _).trans (((cell_far (p := ⟨gb767, _, none⟩) xq14 _).trans (hHeld.2))))))))))⟩ (fun hHeld => ?_)
   clear hK K; refine done_ (done_of HT_.out (by kernel_rfl)) ?_
   try go_wp2_with (first | ((with_reducible refine gate_callee (f := 92) rfl ?_); refine goB 23 Try.func92 #[.slice (some ad765) l0.length c0, .int .i64 2] rfl ?_; (with_reducible refine (spec_TakeNumber.calls k _ _ l0 2 t768 t769 true _ ?side1 ?side2 A7.out).mono ?_); (case side1 => exact Kd.C_below HR0.out belA); (case side2 => exact HC0.out); rintro e w63 ⟨rfl, hb⟩; refine ⟨_, rfl, ?_⟩; replace BK764 := ak (blk_below (g := gb764) (o := .cells #[.int .i64 0, .int .i64 0, .slice none 0 0, .slice none 0 0, .int .i64 0] 49 (0, 0)) xq32 hb); replace BK767 := ak (blk_below (g := gb767) (o := .cells #[.int .i64 (wrap64 (rd l0 0)), .int .i64 (wrap64 (rd l0 1)), .slice none 0 0, .slice none 0 0, .int .i64 0] 49 (0, 0)) xq33 hb); replace HB := bS hb; (try clear hb); have hnb64 := NB767_764.out; have hnc64 := NB764_767.out; obtain ⟨_, _, _, _, _, _, _, _, _, _⟩ := cel5 BK767) | ((with_reducible refine gate_callee (f := 93) rfl ?_); refine goB 35 Try.func93 #[.slice (some ad765) l0.length c0, .int .i64 t769] rfl ?_; (with_reducible refine (spec_l10TakeList.calls k _ _ l0 t769 t771 t772 true _ ?side1 ?side2 A9.out).mono ?_); (case side1 => exact Kd.C_below HR0.out belA); (case side2 => exact HC0.out); rintro e w66 ⟨v774, rfl, ho0, hb⟩; refine ⟨_, rfl, ?_⟩; have HO775 := rL ho0; replace BK764 := ak (blk_below (g := gb764) (o := .cells #[.int .i64 0, .int .i64 0, .slice none 0 0, .slice none 0 0, .int .i64 0] 49 (0, 0)) xq26 hb); replace BK767 := ak (blk_below (g := gb767) (o := .cells #[.int .i64 (wrap64 (rd l0 0)), .int .i64 (wrap64 (rd l0 1)), .slice none 0 0, .slice none 0 0, .int .i64 t768] 49 (0, 0)) xq43 hb); replace HB := bS hb; (try clear hb ho0); obtain ⟨Ao67, co67, eo67⟩ := Kd.R_slice HO775.out; subst eo67; obtain ⟨_, _, _, _, _, _, _, _, _, _⟩ := cel5 BK767) | ((with_reducible refine gate_callee (f := 93) rfl ?_); refine goB 46 Try.func93 #[.slice (some ad765) l0.length c0, .int .i64 t772] rfl ?_; (with_reducible refine (spec_l10TakeList.calls k _ _ l0 t772 t776 t777 true _ ?side1 ?side2 A11.out).mono ?_); (case side1 => exact Kd.C_below HR0.out belA); (case side2 => exact HC0.out); rintro e w69 ⟨v779, rfl, ho0, hb⟩; refine ⟨_, rfl, ?_⟩; have HO780 := rL (Kd.R_new' ho0 (Kd.R_lt (rG HO775 BK767))); replace HO775 := ak (Kd.R_elder' (rG HO775 BK767) (Kd.R_base ho0) hb); replace BK764 := ak (blk_below (g := gb764) (o := .cells #[.int .i64 0, .int .i64 0, .slice none 0 0, .slice none 0 0, .int .i64 0] 49 (0, 0)) xq26 hb); replace BK767 := ak (blk_below (g := gb767) (o := .cells #[.int .i64 (wrap64 (rd l0 0)), .int .i64 (wrap64 (rd l0 1)), .slice Ao67 t771.length co67, .slice none 0 0, .int .i64 t768] 49 (0, 0)) xq54 hb); replace HB := bS hb; (try clear hb ho0); obtain ⟨Ao70, co70, eo70⟩ := Kd.R_slice HO780.out; subst eo70; obtain ⟨_, _, _, _, _, _, _, _, _, _⟩ := cel5 BK767; obtain ⟨_, _, _, _, _, _, _, _, _, _⟩ := cel5 BK764))
   refine bodyPost_ret (results_ct rfl _ _ gb764 49 #[.int .i64 0, .int .i64 0, .slice none 0 0, .slice none 0 0, .int .i64 0] (0, 0) _ rfl xq66 Try.underlying49 rfl (by kernel_rfl)) rfl ?_
   exact ⟨_, _, xq6, xq16, xq16, belA⟩
 rw [if_pos c13] at H; have c13b0 : (t777 == (l0.length : Int)) = true := beq_iff_eq.mpr c13; have c13b1 : (t777 != (l0.length : Int)) = false := bne_eq_false_iff_eq.mpr c13; clear c13; replace H := Option.bind_eq_some_iff.mp H; obtain ⟨t781, A140, H⟩ := H; (try dsimp only at H); have A14 := ak A140; clear A140
 by_cases c15 : t781 = true; rotate_left
 · replace c15 := Bool.eq_false_iff.mpr c15; subst c15; have H1 : (some (0, 0, ([] : List Int), ([] : List Int), 0, false)) = some (r1, r2, r3, r4, r5, r6) := by rw [if_neg (show ¬ (false = true) by decide)] at H; exact H
   clear H; have H := H1; clear H1; simp only [Option.some.injEq, Prod.mk.injEq] at H; obtain ⟨rfl, rfl, rfl, rfl, rfl, rfl⟩ := H; go_enter Try.func51, Try.ntmps51
   try go_wp2_with (first | ((with_reducible refine gate_dst (N := 2) rfl ?_); (try (refine gate_guard (by rfl) ?_; dsimp only)); refine boxA 2 #[.int .i64 0, .int .i64 0, .slice none 0 0, .slice none 0 0, .int .i64 0] 49 ?_; intro gb764 hg w36 hbox hb; have BK764 := ak hbox; have GW764 := leA (w := w) hg; have GE764 := leA (w := w) hg; replace HB := bS hb; clear hb hbox hg))
   replace BK764 := ak (blk_drew BK764.out); replace HB := ak (below_drew1 HB.out); have p765 : 0 ≤ (0 : Int) := (by omega); have q765 : 0 < (l0.length : Int) := odA; obtain ⟨ad765, e765, hx765_0⟩ := Kd.at_int HR0.out 0 p765 q765; have hw765_0 := hx765_0; (try rw [show ((0 : Int)).toNat = 0 from rfl] at hw765_0)
   (try rw [show 0 * 1 = 0 from rfl] at hw765_0)
   (try rw [Addr.add_zero'] at hw765_0)
   cases e765
   have qi765 : (0 < l0.length) = True := eq_true (by omega); (try rw [show ((0 : Int)).toNat = 0 from rfl] at hx765_0)
   (try rw [Addr.add_zero'] at hx765_0)
   try replace hx765_0 := cB HB hx765_0
   replace p765 := eq_true p765; replace q765 := eq_true q765; have p766 : 0 ≤ (1 : Int) := (by omega); have q766 : 1 < (l0.length : Int) := odA; obtain ⟨ad766, e766, hx766_0⟩ := Kd.at_int HR0.out 1 p766 q766; have hw766_0 := hx766_0; (try rw [show ((1 : Int)).toNat = 1 from rfl] at hw766_0)
   (try rw [show 1 * 1 = 1 from rfl] at hw766_0)
   (try simp only [Nat.reduceMul, Nat.reduceEqDiff, Go.Addr.add, ↓reduceIte] at hw766_0)
   obtain rfl : ad765 = ad766 := (by injection e766); (try simp only [show (1 : Int).toNat = 1 from rfl, Nat.reduceMul, Nat.reduceEqDiff, Go.Addr.add, ↓reduceIte] at hx766_0)
   have qi766 : (1 < l0.length) = True := eq_true (by omega); (try rw [show ((1 : Int)).toNat = 1 from rfl] at hx766_0)
   try replace hx766_0 := cB HB hx766_0
   replace p766 := eq_true p766; replace q766 := eq_true q766; refine start_ (n := 11) (S := fun w' => w'.cell? ad765 = some (.int .u8 (rd l0 0)) ∧ w'.cell? ⟨ad765.block, ad765.off + 1, none⟩ = some (.int .u8 (rd l0 1))) (ds := []) #[false, false, false, false, false, false, false, false, false, false, false] (by kernel_rfl) rfl rfl ⟨((HB.out.cell (World.block_lt_of_cell? w _ hw765_0)).trans hw765_0), ((HB.out.cell (World.block_lt_of_cell? w _ hw766_0)).trans hw766_0)⟩ (fun hHeld => ?_); refine with_tabW spec_DecodeJob.tab3 spec_DecodeJob.bits3 (fun HT_ HW_ => ?_)
   generalize w36.drew = w37 at BK764 HB hx765_0 hx766_0 hHeld ⊢
   refine pure_ (i := 0) (N := some 12) (v := ?_) (a' := ?_) #[true, false, false, false, false, false, false, false, false, false, false] rfl rfl (any_of HT_.out (by kernel_rfl)) (fun _ _ _ h => h) (Or.inl ⟨by rfl, ?_⟩) ?_ ?_
   rotate_left
   · intro w'; go_simp
     with_reducible rfl
   rotate_left
   · simp only [Act.put, sa, sb, sc, i64_w, i32_w]
     rfl
   refine pure_ (i := 1) (N := some 13) (v := ?_) (a' := ?_) #[true, true, false, false, false, false, false, false, false, false, false] rfl rfl (any_of HT_.out (by kernel_rfl)) (fun _ _ _ h => h) (Or.inl ⟨by rfl, ?_⟩) ?_ ?_
   rotate_left
   · intro w'; go_simp
     with_reducible rfl
   rotate_left
   · simp only [Act.put, sa, sb, sc, i64_w, i32_w]
     rfl
   refine pure_ (i := 4) (N := some 16) (v := ?_) (a' := ?_) #[true, true, false, false, true, false, false, false, false, false, false] rfl rfl (any_of HT_.out (by kernel_rfl)) (fun _ _ _ h => h) (Or.inl ⟨by rfl, ?_⟩) ?_ ?_
   rotate_left
   · intro w'; go_simp
     with_reducible rfl
   rotate_left
   · simp only [Act.put, sa, sb, sc, i64_w, i32_w]
     rfl
   refine pure_ (i := 5) (N := some 17) (v := ?_) (a' := ?_) #[true, true, false, false, true, true, false, false, false, false, false] rfl rfl (any_of HT_.out (by kernel_rfl)) (fun _ _ _ h => h) (Or.inl ⟨by rfl, ?_⟩) ?_ ?_
   rotate_left
   · intro w'; go_simp
     with_reducible rfl
   rotate_left
   · simp only [Act.put, sa, sb, sc, i64_w, i32_w]
     rfl
   refine take_ (i := 2) (N := some 14) (v := ?_) (a' := ?_) #[true, true, true, false, true, true, false, false, false, false, false] rfl rfl (take_ofW HT_.out HW_.out (by kernel_rfl)) (fun _ _ _ h => h) (Or.inl ⟨by rfl, ?_⟩) hHeld ?_ ?_
   rotate_left
   · rintro w' ⟨s0, s1⟩
     go_simp
     with_reducible rfl
   rotate_left
   · simp only [Act.put, sa, sb, sc, i64_w, i32_w]
     rfl
   refine pure_ (i := 3) (N := some 15) (v := ?_) (a' := ?_) #[true, true, true, true, true, true, false, false, false, false, false] rfl rfl (any_of HT_.out (by kernel_rfl)) (fun _ _ _ h => h) (Or.inl ⟨by rfl, ?_⟩) ?_ ?_
   rotate_left
   · intro w'; go_simp
     with_reducible rfl
   rotate_left
   · simp only [Act.put, sa, sb, sc, i64_w, i32_w]
     rfl
   refine take_ (i := 6) (N := some 18) (v := ?_) (a' := ?_) #[true, true, true, true, true, true, true, false, false, false, false] rfl rfl (take_ofW HT_.out HW_.out (by kernel_rfl)) (fun _ _ _ h => h) (Or.inl ⟨by rfl, ?_⟩) hHeld ?_ ?_
   rotate_left
   · rintro w' ⟨s0, s1⟩
     go_simp
     with_reducible rfl
   rotate_left
   · simp only [Act.put, sa, sb, sc, i64_w, i32_w]
     rfl
   refine pure_ (i := 7) (N := some 19) (v := ?_) (a' := ?_) #[true, true, true, true, true, true, true, true, false, false, false] rfl rfl (any_of HT_.out (by kernel_rfl)) (fun _ _ _ h => h) (Or.inl ⟨by rfl, ?_⟩) ?_ ?_
   rotate_left
   · intro w'; go_simp
     with_reducible rfl
   rotate_left
   · simp only [Act.put, sa, sb, sc, i64_w, i32_w]
     rfl
   refine pure_ (i := 8) (N := some 20) (v := ?_) (a' := ?_) #[true, true, true, true, true, true, true, true, true, false, false] rfl rfl (any_of HT_.out (by kernel_rfl)) (fun _ _ _ h => h) (Or.inl ⟨by rfl, ?_⟩) ?_ ?_
   rotate_left
   · intro w'; go_simp
     with_reducible rfl
   rotate_left
   · simp only [Act.put, sa, sb, sc, i64_w, i32_w]
     rfl
   refine one_ (i := 9) (N := some 4) #[true, true, true, true, true, true, true, true, true, true, false] rfl rfl (one_of HT_.out (by kernel_rfl)) (by decide) (fun K hK => ?_)
   refine box_step ?hg (N := 4) ?hd (cs := #[.int .i64 0, .int .i64 0, .slice none 0 0, .slice none 0 0, .int .i64 0]) (t := 49) ?hr ?_; (case hd => rfl); (case hg => rfl); (case hr => exact xq11)
   intro gb767 hg w38 hbox hb; have BK767 := ak hbox; have GW767 := leA (w := w) hg; have GE767 := leA (w := w) hg; have NB764_767 := neL hg BK764; have NB767_764 := neG hg BK764; replace BK764 := bB BK764 hb; replace HB := bS hb; clear hb hbox hg; refine hK.out _ _ ⟨((HB.out.cell (World.block_lt_of_cell? w _ hw765_0)).trans hw765_0), ((HB.out.cell (World.block_lt_of_cell? w _ hw766_0)).trans hw766_0)⟩ (fun hHeld => ?_)
   clear hK K; refine norm_ (a' := ?_) ?_ ?_
   rotate_left
   · show Act.put _ (some 4) _ = _
     simp only [Act.put, sa, sb, sc, i64_w, i32_w]
     rfl
   refine one_ (i := 10) (N := none) #[true, true, true, true, true, true, true, true, true, true, true] rfl rfl (one_of HT_.out (by kernel_rfl)) (by decide) (fun K hK => ?_)
   have hs39 : w38.cell? ⟨gb767, 0, none⟩ = some (.int .i64 0) := (blk_cell BK767.out 0).trans rfl; have hfs39 := blk_frozen BK767.out 0; have hns39_0 := NB764_767.out; have hms39_0 := NB767_764.out; have hs40 : w38.cell? ⟨gb767, 1, none⟩ = some (.int .i64 0) := (blk_cell BK767.out 1).trans rfl; have hfs40 := blk_frozen BK767.out 1; have hns40_0 := NB764_767.out; have hms40_0 := NB767_764.out; have hs41 : w38.cell? ⟨gb767, 2, none⟩ = some (.slice none 0 0) := (blk_cell BK767.out 2).trans rfl; have hfs41 := blk_frozen BK767.out 2; have hns41_0 := NB764_767.out; have hms41_0 := NB767_764.out; have hs42 : w38.cell? ⟨gb767, 3, none⟩ = some (.slice none 0 0) := (blk_cell BK767.out 3).trans rfl; have hfs42 := blk_frozen BK767.out 3; have hns42_0 := NB764_767.out; have hms42_0 := NB767_764.out; have hs43 : w38.cell? ⟨gb767, 4, none⟩ = some (.int .i64 0) := (blk_cell BK767.out 4).trans rfl; have hfs43 := blk_frozen BK767.out 4; have hns43_0 := NB764_767.out; have hms43_0 := NB767_764.out; refine skip_ (w1 := ?_) (by rfl) rfl ?_ ?_
   rotate_left
   · go_simp
     rfl
   refine hK.out _ _ ⟨((cell_far (p := ⟨gb767, _, none⟩) xq13 _).trans (((cell_far (p := ⟨gb767, _, none⟩) xq13 _).trans (((cell_far (p := ⟨gb767, _, none⟩) xq13 _).trans (((cell_far (p := ⟨gb767, _, none⟩) xq13 _).trans (((cell_far (p := ⟨gb767, _, none⟩) xq13 _).trans (hHeld.1)))))))))), ((cell_far (p := ⟨gb767, _, none⟩) xq14 _).trans (((cell_far (p := ⟨gb767, _, none⟩) xq14 _).trans (((cell_far (p := ⟨gb767, _, none⟩) xq14 _).trans (((cell_far (p := ⟨gb767, _, none⟩) xq14 _).trans (((cell_far (p := ⟨gb767, _, none⟩) xq14 _).trans (hHeld.2))))))))))⟩ (fun hHeld => ?_)
   clear hK K; refine done_ (done_of HT_.out (by kernel_rfl)) ?_
   try go_wp2_with (first | ((with_reducible refine gate_callee (f := 92) rfl ?_); refine goB 23 Try.func92 #[.slice (some ad765) l0.length c0, .int .i64 2] rfl ?_; (with_reducible refine (spec_TakeNumber.calls k _ _ l0 2 t768 t769 true _ ?side1 ?side2 A7.out).mono ?_); (case side1 => exact Kd.C_below HR0.out belA); (case side2 => exact HC0.out); rintro e w44 ⟨rfl, hb⟩; refine ⟨_, rfl, ?_⟩; replace BK764 := ak (blk_below (g := gb764) (o := .cells #[.int .i64 0, .int .i64 0, .slice none 0 0, .slice none 0 0, .int .i64 0] 49 (0, 0)) xq32 hb); replace BK767 := ak (blk_below (g := gb767) (o := .cells #[.int .i64 (wrap64 (rd l0 0)), .int .i64 (wrap64 (rd l0 1)), .slice none 0 0, .slice none 0 0, .int .i64 0] 49 (0, 0)) xq33 hb); replace HB := bS hb; (try clear hb); have hnb45 := NB767_764.out; have hnc45 := NB764_767.out; obtain ⟨_, _, _, _, _, _, _, _, _, _⟩ := cel5 BK767) | ((with_reducible refine gate_callee (f := 93) rfl ?_); refine goB 35 Try.func93 #[.slice (some ad765) l0.length c0, .int .i64 t769] rfl ?_; (with_reducible refine (spec_l10TakeList.calls k _ _ l0 t769 t771 t772 true _ ?side1 ?side2 A9.out).mono ?_); (case side1 => exact Kd.C_below HR0.out belA); (case side2 => exact HC0.out); rintro e w47 ⟨v774, rfl, ho0, hb⟩; refine ⟨_, rfl, ?_⟩; have HO775 := rL ho0; replace BK764 := ak (blk_below (g := gb764) (o := .cells #[.int .i64 0, .int .i64 0, .slice none 0 0, .slice none 0 0, .int .i64 0] 49 (0, 0)) xq26 hb); replace BK767 := ak (blk_below (g := gb767) (o := .cells #[.int .i64 (wrap64 (rd l0 0)), .int .i64 (wrap64 (rd l0 1)), .slice none 0 0, .slice none 0 0, .int .i64 t768] 49 (0, 0)) xq43 hb); replace HB := bS hb; (try clear hb ho0); obtain ⟨Ao48, co48, eo48⟩ := Kd.R_slice HO775.out; subst eo48; obtain ⟨_, _, _, _, _, _, _, _, _, _⟩ := cel5 BK767) | ((with_reducible refine gate_callee (f := 93) rfl ?_); refine goB 46 Try.func93 #[.slice (some ad765) l0.length c0, .int .i64 t772] rfl ?_; (with_reducible refine (spec_l10TakeList.calls k _ _ l0 t772 t776 t777 true _ ?side1 ?side2 A11.out).mono ?_); (case side1 => exact Kd.C_below HR0.out belA); (case side2 => exact HC0.out); rintro e w50 ⟨v779, rfl, ho0, hb⟩; refine ⟨_, rfl, ?_⟩; have HO780 := rL (Kd.R_new' ho0 (Kd.R_lt (rG HO775 BK767))); replace HO775 := ak (Kd.R_elder' (rG HO775 BK767) (Kd.R_base ho0) hb); replace BK764 := ak (blk_below (g := gb764) (o := .cells #[.int .i64 0, .int .i64 0, .slice none 0 0, .slice none 0 0, .int .i64 0] 49 (0, 0)) xq26 hb); replace BK767 := ak (blk_below (g := gb767) (o := .cells #[.int .i64 (wrap64 (rd l0 0)), .int .i64 (wrap64 (rd l0 1)), .slice Ao48 t771.length co48, .slice none 0 0, .int .i64 t768] 49 (0, 0)) xq54 hb); replace HB := bS hb; (try clear hb ho0); obtain ⟨Ao51, co51, eo51⟩ := Kd.R_slice HO780.out; subst eo51; obtain ⟨_, _, _, _, _, _, _, _, _, _⟩ := cel5 BK767) | (go_at_call 45; (with_reducible refine (spec_JobOk.calls k (wrap64 (rd l0 0)) (wrap64 (rd l0 1)) _ _ t771 _ _ t776 t768 false _ ?side1 ?side2 ?side3 ?side4 A14.out).mono ?_); (case side1 => refine (Kd.R_reads' (e := 3) (base := w.heap.size) (ok := fun k_ => (True ∧ some k_ ≠ (.slice Ao51 t776.length co51 : Value).ownBlock)) (n := t771.length) (c := co48) ?_).2.2; exact (rG HO775 BK767)); (case side2 => exact (Kd.R_reads' HO775.out).2.1); (case side3 => refine (Kd.R_reads' (e := 3) (base := w.heap.size) (ok := fun k_ => (True ∧ some k_ ≠ (.slice Ao48 t771.length co48 : Value).ownBlock)) (n := t776.length) (c := co51) ?_).2.2; exact (rG HO780 BK767)); (case side4 => exact (Kd.R_reads' HO780.out).2.1); rintro e w53 ⟨rfl, hb⟩; replace HO775 := ak (Kd.R_below (rG HO775 BK767) hb); replace HO780 := ak (Kd.R_below (rG HO780 BK767) hb); replace BK764 := ak (blk_below (g := gb764) (o := .cells #[.int .i64 0, .int .i64 0, .slice none 0 0, .slice none 0 0, .int .i64 0] 49 (0, 0)) xq26 hb); replace BK767 := ak (blk_below (g := gb767) (o := .cells #[.int .i64 (wrap64 (rd l0 0)), .int .i64 (wrap64 (rd l0 1)), .slice Ao48 t771.length co48, .slice Ao51 t776.length co51, .int .i64 t768] 49 (0, 0)) (by (with_reducible repeat (first | refine blk_drewN ?_ _ | refine blk_drew ?_ | refine blk_alloc ?_ _)); refine blk_put (cs := #[.int .i64 (wrap64 (rd l0 0)), .int .i64 (wrap64 (rd l0 1)), .slice Ao48 t771.length co48, .slice none 0 0, .int .i64 t768]) ?_ 3 _ rfl; (with_reducible repeat (first | refine blk_drewN ?_ _ | refine blk_drew ?_ | refine blk_alloc ?_ _)); exact BK767.out) hb); replace HB := bS hb; (try clear hb); obtain ⟨_, _, _, _, _, _, _, _, _, _⟩ := cel5 BK764))
   refine bodyPost_ret (results_ct rfl _ _ gb764 49 #[.int .i64 0, .int .i64 0, .slice none 0 0, .slice none 0 0, .int .i64 0] (0, 0) _ rfl xq65 Try.underlying49 rfl (by kernel_rfl)) rfl ?_
   exact ⟨_, _, xq6, xq16, xq16, belA⟩
 subst c15; have H1 : (some (wrap64 (rd l0 0), wrap64 (rd l0 1), t771, t776, t768, true)) = some (r1, r2, r3, r4, r5, r6) := by rw [if_pos rfl] at H; exact H
 clear H; have H := H1; clear H1; simp only [Option.some.injEq, Prod.mk.injEq] at H; obtain ⟨rfl, rfl, rfl, rfl, rfl, rfl⟩ := H; go_enter Try.func51, Try.ntmps51
 try go_wp2_with (first | ((with_reducible refine gate_dst (N := 2) rfl ?_); (try (refine gate_guard (by rfl) ?_; dsimp only)); refine boxA 2 #[.int .i64 0, .int .i64 0, .slice none 0 0, .slice none 0 0, .int .i64 0] 49 ?_; intro gb764 hg w16 hbox hb; have BK764 := ak hbox; have GW764 := leA (w := w) hg; have GE764 := leA (w := w) hg; replace HB := bS hb; clear hb hbox hg))
 replace BK764 := ak (blk_drew BK764.out); replace HB := ak (below_drew1 HB.out); have p765 : 0 ≤ (0 : Int) := (by omega); have q765 : 0 < (l0.length : Int) := odA; obtain ⟨ad765, e765, hx765_0⟩ := Kd.at_int HR0.out 0 p765 q765; have hw765_0 := hx765_0; (try rw [show ((0 : Int)).toNat = 0 from rfl] at hw765_0)
 (try rw [show 0 * 1 = 0 from rfl] at hw765_0)
 (try rw [Addr.add_zero'] at hw765_0)
 cases e765
 have qi765 : (0 < l0.length) = True := eq_true (by omega); (try rw [show ((0 : Int)).toNat = 0 from rfl] at hx765_0)
 (try rw [Addr.add_zero'] at hx765_0)
 try replace hx765_0 := cB HB hx765_0
 replace p765 := eq_true p765; replace q765 := eq_true q765; have p766 : 0 ≤ (1 : Int) := (by omega); have q766 : 1 < (l0.length : Int) := odA; obtain ⟨ad766, e766, hx766_0⟩ := Kd.at_int HR0.out 1 p766 q766; have hw766_0 := hx766_0; (try rw [show ((1 : Int)).toNat = 1 from rfl] at hw766_0)
 (try rw [show 1 * 1 = 1 from rfl] at hw766_0)
 (try simp only [Nat.reduceMul, Nat.reduceEqDiff, Go.Addr.add, ↓reduceIte] at hw766_0)
 obtain rfl : ad765 = ad766 := (by injection e766); (try simp only [show (1 : Int).toNat = 1 from rfl, Nat.reduceMul, Nat.reduceEqDiff, Go.Addr.add, ↓reduceIte] at hx766_0)
 have qi766 : (1 < l0.length) = True := eq_true (by omega); (try rw [show ((1 : Int)).toNat = 1 from rfl] at hx766_0)
 try replace hx766_0 := cB HB hx766_0
 replace p766 := eq_true p766; replace q766 := eq_true q766; refine start_ (n := 11) (S := fun w' => w'.cell? ad765 = some (.int .u8 (rd l0 0)) ∧ w'.cell? ⟨ad765.block, ad765.off + 1, none⟩ = some (.int .u8 (rd l0 1))) (ds := []) #[false, false, false, false, false, false, false, false, false, false, false] (by kernel_rfl) rfl rfl ⟨((HB.out.cell (World.block_lt_of_cell? w _ hw765_0)).trans hw765_0), ((HB.out.cell (World.block_lt_of_cell? w _ hw766_0)).trans hw766_0)⟩ (fun hHeld => ?_); refine with_tabW spec_DecodeJob.tab3 spec_DecodeJob.bits3 (fun HT_ HW_ => ?_)
 generalize w16.drew = w17 at BK764 HB hx765_0 hx766_0 hHeld ⊢
 refine pure_ (i := 0) (N := some 12) (v := ?_) (a' := ?_) #[true, false, false, false, false, false, false, false, false, false, false] rfl rfl (any_of HT_.out (by kernel_rfl)) (fun _ _ _ h => h) (Or.inl ⟨by rfl, ?_⟩) ?_ ?_
 rotate_left
 · intro w'; go_simp
   with_reducible rfl
 rotate_left
 · simp only [Act.put, sa, sb, sc, i64_w, i32_w]
   rfl
 refine pure_ (i := 1) (N := some 13) (v := ?_) (a' := ?_) #[true, true, false, false, false, false, false, false, false, false, false] rfl rfl (any_of HT_.out (by kernel_rfl)) (fun _ _ _ h => h) (Or.inl ⟨by rfl, ?_⟩) ?_ ?_
 rotate_left
 · intro w'; go_simp
   with_reducible rfl
 rotate_left
 · simp only [Act.put, sa, sb, sc, i64_w, i32_w]
   rfl
 refine pure_ (i := 4) (N := some 16) (v := ?_) (a' := ?_) #[true, true, false, false, true, false, false, false, false, false, false] rfl rfl (any_of HT_.out (by kernel_rfl)) (fun _ _ _ h => h) (Or.inl ⟨by rfl, ?_⟩) ?_ ?_
 rotate_left
 · intro w'; go_simp
   with_reducible rfl
 rotate_left
 · simp only [Act.put, sa, sb, sc, i64_w, i32_w]
   rfl
 refine pure_ (i := 5) (N := some 17) (v := ?_) (a' := ?_) #[true, true, false, false, true, true, false, false, false, false, false] rfl rfl (any_of HT_.out (by kernel_rfl)) (fun _ _ _ h => h) (Or.inl ⟨by rfl, ?_⟩) ?_ ?_
 rotate_left
 · intro w'; go_simp
   with_reducible rfl
 rotate_left
 · simp only [Act.put, sa, sb, sc, i64_w, i32_w]
   rfl
 refine take_ (i := 2) (N := some 14) (v := ?_) (a' := ?_) #[true, true, true, false, true, true, false, false, false, false, false] rfl rfl (take_ofW HT_.out HW_.out (by kernel_rfl)) (fun _ _ _ h => h) (Or.inl ⟨by rfl, ?_⟩) hHeld ?_ ?_
 rotate_left
 · rintro w' ⟨s0, s1⟩
   go_simp
   with_reducible rfl
 rotate_left
 · simp only [Act.put, sa, sb, sc, i64_w, i32_w]
   rfl
 refine pure_ (i := 3) (N := some 15) (v := ?_) (a' := ?_) #[true, true, true, true, true, true, false, false, false, false, false] rfl rfl (any_of HT_.out (by kernel_rfl)) (fun _ _ _ h => h) (Or.inl ⟨by rfl, ?_⟩) ?_ ?_
 rotate_left
 · intro w'; go_simp
   with_reducible rfl
 rotate_left
 · simp only [Act.put, sa, sb, sc, i64_w, i32_w]
   rfl
 refine take_ (i := 6) (N := some 18) (v := ?_) (a' := ?_) #[true, true, true, true, true, true, true, false, false, false, false] rfl rfl (take_ofW HT_.out HW_.out (by kernel_rfl)) (fun _ _ _ h => h) (Or.inl ⟨by rfl, ?_⟩) hHeld ?_ ?_
 rotate_left
 · rintro w' ⟨s0, s1⟩
   go_simp
   with_reducible rfl
 rotate_left
 · simp only [Act.put, sa, sb, sc, i64_w, i32_w]
   rfl
 refine pure_ (i := 7) (N := some 19) (v := ?_) (a' := ?_) #[true, true, true, true, true, true, true, true, false, false, false] rfl rfl (any_of HT_.out (by kernel_rfl)) (fun _ _ _ h => h) (Or.inl ⟨by rfl, ?_⟩) ?_ ?_
 rotate_left
 · intro w'; go_simp
   with_reducible rfl
 rotate_left
 · simp only [Act.put, sa, sb, sc, i64_w, i32_w]
   rfl
 refine pure_ (i := 8) (N := some 20) (v := ?_) (a' := ?_) #[true, true, true, true, true, true, true, true, true, false, false] rfl rfl (any_of HT_.out (by kernel_rfl)) (fun _ _ _ h => h) (Or.inl ⟨by rfl, ?_⟩) ?_ ?_
 rotate_left
 · intro w'; go_simp
   with_reducible rfl
 rotate_left
 · simp only [Act.put, sa, sb, sc, i64_w, i32_w]
   rfl
 refine one_ (i := 9) (N := some 4) #[true, true, true, true, true, true, true, true, true, true, false] rfl rfl (one_of HT_.out (by kernel_rfl)) (by decide) (fun K hK => ?_)
 refine box_step ?hg (N := 4) ?hd (cs := #[.int .i64 0, .int .i64 0, .slice none 0 0, .slice none 0 0, .int .i64 0]) (t := 49) ?hr ?_; (case hd => rfl); (case hg => rfl); (case hr => exact xq11)
 intro gb767 hg w18 hbox hb; have BK767 := ak hbox; have GW767 := leA (w := w) hg; have GE767 := leA (w := w) hg; have NB764_767 := neL hg BK764; have NB767_764 := neG hg BK764; replace BK764 := bB BK764 hb; replace HB := bS hb; clear hb hbox hg; refine hK.out _ _ ⟨((HB.out.cell (World.block_lt_of_cell? w _ hw765_0)).trans hw765_0), ((HB.out.cell (World.block_lt_of_cell? w _ hw766_0)).trans hw766_0)⟩ (fun hHeld => ?_)
 clear hK K; refine norm_ (a' := ?_) ?_ ?_
 rotate_left
 · show Act.put _ (some 4) _ = _
   simp only [Act.put, sa, sb, sc, i64_w, i32_w]
   rfl
 refine one_ (i := 10) (N := none) #[true, true, true, true, true, true, true, true, true, true, true] rfl rfl (one_of HT_.out (by kernel_rfl)) (by decide) (fun K hK => ?_)
 have hs19 : w18.cell? ⟨gb767, 0, none⟩ = some (.int .i64 0) := (blk_cell BK767.out 0).trans rfl; have hfs19 := blk_frozen BK767.out 0; have hns19_0 := NB764_767.out; have hms19_0 := NB767_764.out; have hs20 : w18.cell? ⟨gb767, 1, none⟩ = some (.int .i64 0) := (blk_cell BK767.out 1).trans rfl; have hfs20 := blk_frozen BK767.out 1; have hns20_0 := NB764_767.out; have hms20_0 := NB767_764.out; have hs21 : w18.cell? ⟨gb767, 2, none⟩ = some (.slice none 0 0) := (blk_cell BK767.out 2).trans rfl; have hfs21 := blk_frozen BK767.out 2; have hns21_0 := NB764_767.out; have hms21_0 := NB767_764.out; have hs22 : w18.cell? ⟨gb767, 3, none⟩ = some (.slice none 0 0) := (blk_cell BK767.out 3).trans rfl; have hfs22 := blk_frozen BK767.out 3; have hns22_0 := NB764_767.out; have hms22_0 := NB767_764.out; have hs23 : w18.cell? ⟨gb767, 4, none⟩ = some (.int .i64 0) := (blk_cell BK767.out 4).trans rfl; have hfs23 := blk_frozen BK767.out 4; have hns23_0 := NB764_767.out; have hms23_0 := NB767_764.out; refine skip_ (w1 := ?_) (by rfl) rfl ?_ ?_
 rotate_left
 · go_simp
   rfl
 refine hK.out _ _ ⟨((cell_far (p := ⟨gb767, _, none⟩) xq13 _).trans (((cell_far (p := ⟨gb767, _, none⟩) xq13 _).trans (((cell_far (p := ⟨gb767, _, none⟩) xq13 _).trans (((cell_far (p := ⟨gb767, _, none⟩) xq13 _).trans (((cell_far (p := ⟨gb767, _, none⟩) xq13 _).trans (hHeld.1)))))))))), ((cell_far (p := ⟨gb767, _, none⟩) xq14 _).trans (((cell_far (p := ⟨gb767, _, none⟩) xq14 _).trans (((cell_far (p := ⟨gb767, _, none⟩) xq14 _).trans (((cell_far (p := ⟨gb767, _, none⟩) xq14 _).trans (((cell_far (p := ⟨gb767, _, none⟩) xq14 _).trans (hHeld.2))))))))))⟩ (fun hHeld => ?_)
 clear hK K; refine done_ (done_of HT_.out (by kernel_rfl)) ?_
 try go_wp2_with (first | ((with_reducible refine gate_callee (f := 92) rfl ?_); refine goB 23 Try.func92 #[.slice (some ad765) l0.length c0, .int .i64 2] rfl ?_; (with_reducible refine (spec_TakeNumber.calls k _ _ l0 2 t768 t769 true _ ?side1 ?side2 A7.out).mono ?_); (case side1 => exact Kd.C_below HR0.out belA); (case side2 => exact HC0.out); rintro e w24 ⟨rfl, hb⟩; refine ⟨_, rfl, ?_⟩; replace BK764 := ak (blk_below (g := gb764) (o := .cells #[.int .i64 0, .int .i64 0, .slice none 0 0, .slice none 0 0, .int .i64 0] 49 (0, 0)) xq32 hb); replace BK767 := ak (blk_below (g := gb767) (o := .cells #[.int .i64 (wrap64 (rd l0 0)), .int .i64 (wrap64 (rd l0 1)), .slice none 0 0, .slice none 0 0, .int .i64 0] 49 (0, 0)) xq33 hb); replace HB := bS hb; (try clear hb); have hnb25 := NB767_764.out; have hnc25 := NB764_767.out; obtain ⟨_, _, _, _, _, _, _, _, _, _⟩ := cel5 BK767) | ((with_reducible refine gate_callee (f := 93) rfl ?_); refine goB 35 Try.func93 #[.slice (some ad765) l0.length c0, .int .i64 t769] rfl ?_; (with_reducible refine (spec_l10TakeList.calls k _ _ l0 t769 t771 t772 true _ ?side1 ?side2 A9.out).mono ?_); (case side1 => exact Kd.C_below HR0.out belA); (case side2 => exact HC0.out); rintro e w27 ⟨v774, rfl, ho0, hb⟩; refine ⟨_, rfl, ?_⟩; have HO775 := rL ho0; replace BK764 := ak (blk_below (g := gb764) (o := .cells #[.int .i64 0, .int .i64 0, .slice none 0 0, .slice none 0 0, .int .i64 0] 49 (0, 0)) xq26 hb); replace BK767 := ak (blk_below (g := gb767) (o := .cells #[.int .i64 (wrap64 (rd l0 0)), .int .i64 (wrap64 (rd l0 1)), .slice none 0 0, .slice none 0 0, .int .i64 t768] 49 (0, 0)) xq43 hb); replace HB := bS hb; (try clear hb ho0); obtain ⟨Ao28, co28, eo28⟩ := Kd.R_slice HO775.out; subst eo28; obtain ⟨_, _, _, _, _, _, _, _, _, _⟩ := cel5 BK767) | ((with_reducible refine gate_callee (f := 93) rfl ?_); refine goB 46 Try.func93 #[.slice (some ad765) l0.length c0, .int .i64 t772] rfl ?_; (with_reducible refine (spec_l10TakeList.calls k _ _ l0 t772 t776 t777 true _ ?side1 ?side2 A11.out).mono ?_); (case side1 => exact Kd.C_below HR0.out belA); (case side2 => exact HC0.out); rintro e w30 ⟨v779, rfl, ho0, hb⟩; refine ⟨_, rfl, ?_⟩; have HO780 := rL (Kd.R_new' ho0 (Kd.R_lt (rG HO775 BK767))); replace HO775 := ak (Kd.R_elder' (rG HO775 BK767) (Kd.R_base ho0) hb); replace BK764 := ak (blk_below (g := gb764) (o := .cells #[.int .i64 0, .int .i64 0, .slice none 0 0, .slice none 0 0, .int .i64 0] 49 (0, 0)) xq26 hb); replace BK767 := ak (blk_below (g := gb767) (o := .cells #[.int .i64 (wrap64 (rd l0 0)), .int .i64 (wrap64 (rd l0 1)), .slice Ao28 t771.length co28, .slice none 0 0, .int .i64 t768] 49 (0, 0)) xq54 hb); replace HB := bS hb; (try clear hb ho0); obtain ⟨Ao31, co31, eo31⟩ := Kd.R_slice HO780.out; subst eo31; obtain ⟨_, _, _, _, _, _, _, _, _, _⟩ := cel5 BK767) | (go_at_call 45; (with_reducible refine (spec_JobOk.calls k (wrap64 (rd l0 0)) (wrap64 (rd l0 1)) _ _ t771 _ _ t776 t768 true _ ?side1 ?side2 ?side3 ?side4 A14.out).mono ?_); (case side1 => refine (Kd.R_reads' (e := 3) (base := w.heap.size) (ok := fun k_ => (True ∧ some k_ ≠ (.slice Ao31 t776.length co31 : Value).ownBlock)) (n := t771.length) (c := co28) ?_).2.2; exact (rG HO775 BK767)); (case side2 => exact (Kd.R_reads' HO775.out).2.1); (case side3 => refine (Kd.R_reads' (e := 3) (base := w.heap.size) (ok := fun k_ => (True ∧ some k_ ≠ (.slice Ao28 t771.length co28 : Value).ownBlock)) (n := t776.length) (c := co31) ?_).2.2; exact (rG HO780 BK767)); (case side4 => exact (Kd.R_reads' HO780.out).2.1); rintro e w33 ⟨rfl, hb⟩; replace HO775 := ak (Kd.R_below (rG HO775 BK767) hb); replace HO780 := ak (Kd.R_below (rG HO780 BK767) hb); replace BK764 := ak (blk_below (g := gb764) (o := .cells #[.int .i64 0, .int .i64 0, .slice none 0 0, .slice none 0 0, .int .i64 0] 49 (0, 0)) xq26 hb); replace BK767 := ak (blk_below (g := gb767) (o := .cells #[.int .i64 (wrap64 (rd l0 0)), .int .i64 (wrap64 (rd l0 1)), .slice Ao28 t771.length co28, .slice Ao31 t776.length co31, .int .i64 t768] 49 (0, 0)) (by (with_reducible repeat (first | refine blk_drewN ?_ _ | refine blk_drew ?_ | refine blk_alloc ?_ _)); refine blk_put (cs := #[.int .i64 (wrap64 (rd l0 0)), .int .i64 (wrap64 (rd l0 1)), .slice Ao28 t771.length co28, .slice none 0 0, .int .i64 t768]) ?_ 3 _ rfl; (with_reducible repeat (first | refine blk_drewN ?_ _ | refine blk_drew ?_ | refine blk_alloc ?_ _)); exact BK767.out) hb); replace HB := bS hb; (try clear hb); obtain ⟨_, _, _, _, _, _, _, _, _, _⟩ := cel5 BK767; obtain ⟨_, _, _, _, _, _, _, _, _, _⟩ := cel5 BK764))
 refine bodyPost_ret (results_ct rfl _ _ gb764 49 #[.int .i64 (wrap64 (rd l0 0)), .int .i64 (wrap64 (rd l0 1)), .slice Ao28 t771.length co28, .slice Ao31 t776.length co31, .int .i64 t768] (0, 0) _ rfl (by (with_reducible repeat (first | refine blk_drewN ?_ _ | refine blk_drew ?_ | refine blk_alloc ?_ _)); refine blk_put (cs := #[.int .i64 (wrap64 (rd l0 0)), .int .i64 (wrap64 (rd l0 1)), .slice Ao28 t771.length co28, .slice Ao31 t776.length co31, .int .i64 0]) ?_ 4 _ rfl; (with_reducible repeat (first | refine blk_drewN ?_ _ | refine blk_drew ?_ | refine blk_alloc ?_ _)); refine blk_put (cs := #[.int .i64 (wrap64 (rd l0 0)), .int .i64 (wrap64 (rd l0 1)), .slice Ao28 t771.length co28, .slice none 0 0, .int .i64 0]) ?_ 3 _ rfl; (with_reducible repeat (first | refine blk_drewN ?_ _ | refine blk_drew ?_ | refine blk_alloc ?_ _)); refine blk_put (cs := #[.int .i64 (wrap64 (rd l0 0)), .int .i64 (wrap64 (rd l0 1)), .slice none 0 0, .slice none 0 0, .int .i64 0]) ?_ 2 _ rfl; (with_reducible repeat (first | refine blk_drewN ?_ _ | refine blk_drew ?_ | refine blk_alloc ?_ _)); refine blk_put (cs := #[.int .i64 (wrap64 (rd l0 0)), .int .i64 0, .slice none 0 0, .slice none 0 0, .int .i64 0]) ?_ 1 _ rfl; (with_reducible repeat (first | refine blk_drewN ?_ _ | refine blk_drew ?_ | refine blk_alloc ?_ _)); refine blk_put (cs := #[.int .i64 0, .int .i64 0, .slice none 0 0, .slice none 0 0, .int .i64 0]) ?_ 0 _ rfl; (with_reducible repeat (first | refine blk_drewN ?_ _ | refine blk_drew ?_ | refine blk_alloc ?_ _)); exact BK764.out) Try.underlying49 rfl (by kernel_rfl)) rfl ?_
 exact ⟨_, _, xq6, by (with_reducible repeat (first | apply Kd.R_alloc | apply Kd.R_drewN | apply Kd.R_drew)); exact Kd.R_mono (Kd.R_far (p := ⟨gb764, 4, none⟩) (Kd.R_far (p := ⟨gb764, 3, none⟩) (Kd.R_far (p := ⟨gb764, 2, none⟩) (Kd.R_far (p := ⟨gb764, 1, none⟩) (Kd.R_far (p := ⟨gb764, 0, none⟩) (Kd.R_types HO775.out BK764.out (by decide)) (fun _ hk => hk.2) (.int .i64 (wrap64 (rd l0 0)))) (fun _ hk => hk.2) (.int .i64 (wrap64 (rd l0 1)))) (fun _ hk => hk.2) (.slice Ao28 t771.length co28)) (fun _ hk => hk.2) (.slice Ao31 t776.length co31)) (fun _ hk => hk.2) (.int .i64 t768)) (fun _ hk => hk.1.2), by (with_reducible repeat (first | apply Kd.R_alloc | apply Kd.R_drewN | apply Kd.R_drew)); exact Kd.R_mono (Kd.R_far (p := ⟨gb764, 4, none⟩) (Kd.R_far (p := ⟨gb764, 3, none⟩) (Kd.R_far (p := ⟨gb764, 2, none⟩) (Kd.R_far (p := ⟨gb764, 1, none⟩) (Kd.R_far (p := ⟨gb764, 0, none⟩) (Kd.R_types HO780.out BK764.out (by decide)) (fun _ hk => hk.2) (.int .i64 (wrap64 (rd l0 0)))) (fun _ hk => hk.2) (.int .i64 (wrap64 (rd l0 1)))) (fun _ hk => hk.2) (.slice Ao28 t771.length co28)) (fun _ hk => hk.2) (.slice Ao31 t776.length co31)) (fun _ hk => hk.2) (.int .i64 t768)) (fun _ hk => hk.1.2), belA⟩

end Go.Proofs.Ytogdhclomgafdaa.PFnJobBytes

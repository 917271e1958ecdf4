-- Written by a program of this session (the print of the kit with contracts of this session's own added)
import Derived.Test.YtdefnccngnilmaaZFRx14
import Derived.Test.YtdefnccngnilmaaZFRx15
namespace Go.Proofs.Ytdefnccngnilmaa.PFnResync
open Go.RowKit Go.Proofs.YtdefnccngnilmaaW.PrintWords Go.Proofs.YtdefnccngnilmaaW.PrintLast Go.Proofs.YtdefnccngnilmaaW.PrintMore Go.Proofs.YtdefnccngnilmaaW.PrintPack
attribute [local go_sem] max2_int min2_int max_two min_two max_three min_three max_four min_four   -- for this text's walks alone
set_option linter.unusedVariables false
set_option linter.unusedSimpArgs false

/-! ### laws_FnResync: function 6 -/
mutual
def laws_FnResync.l0 : Nat → List Int → List Int → Int → Int → Int → List Int → Option (Bool)
 | 0, _, _, _, _, _, _ => none
 | k + 1, x0, x4, x5, x883000, x883001, x883002 => (laws_at.f x0 0).bind fun t887 => (if x5 < t887 then ((laws_at.f x0 (wrap64 (x5 + 1))).bind fun t888 => (if t888 = 199 then (if x4.length < 140737488355328 then (laws_FnResync.l0 k x0 (x4 ++ [77]) (wrap64 (x5 + 1)) x883000 x883001 x883002) else (none)) else (if x4.length < 140737488355328 then (laws_FnResync.l0 k x0 (x4 ++ [(t888) % 256]) (wrap64 (x5 + 1)) x883000 x883001 x883002) else (none)))) else ((impl_EncodeFrame.f k x883000 x883001 x883002).bind fun t895 => (laws_FnResync.l1 k x4 (x4.length : Int) t895 0 x883000 x883001 x883002)))
def laws_FnResync.l1 : Nat → List Int → Int → List Int → Int → Int → Int → List Int → Option (Bool)
 | 0, _, _, _, _, _, _, _ => none
 | k + 1, x4, x7, x8, x9, x883000, x883001, x883002 => if x9 < (x8.length : Int) then (if 0 ≤ x9 then (if x4.length < 140737488355328 then (laws_FnResync.l1 k (x4 ++ [rd x8 x9]) x7 x8 (wrap64 (x9 + 1)) x883000 x883001 x883002) else (none)) else (none)) else ((impl_Feed.f k ([] : List Int) 0 x4).bind fun bt902 => (if (bt902.2.2.length : Int) = 1 then (if 0 < (bt902.2.2.length : Int) then ((laws_sameFrame.f k ((rd_T59 bt902.2.2 0).f0) ((rd_T59 bt902.2.2 0).f1) ((rd_T59 bt902.2.2 0).f2) x883000 x883001 x883002).bind fun t911 => (if t911 = true then (if bt902.2.1 = x7 then (some ((bt902.1.length : Int) == 0)) else (some false)) else (some false))) else (none)) else (some false)))
end
def laws_FnResync.f (k : Nat) (l0 : List Int) : Option (Bool) := (laws_big.f l0).bind fun t876 => (if t876 = true then (some true) else ((spec_DrawEncodeFrame.f k l0).bind fun bt877 => ((spec_FrameOk.f bt877.1 bt877.2.1 bt877.2.2).bind fun t883 => (if t883 = true then (laws_FnResync.l0 k l0 (([] : List Int)) 0 bt877.1 bt877.2.1 bt877.2.2) else (some true)))))
theorem laws_FnResync.mono_l : ∀ k, (∀ y0 y1 y2 y3 y4 y5, LeO (laws_FnResync.l0 k y0 y1 y2 y3 y4 y5) (laws_FnResync.l0 (k + 1) y0 y1 y2 y3 y4 y5)) ∧ (∀ y0 y1 y2 y3 y4 y5 y6, LeO (laws_FnResync.l1 k y0 y1 y2 y3 y4 y5 y6) (laws_FnResync.l1 (k + 1) y0 y1 y2 y3 y4 y5 y6))
 | 0 => ⟨fun _ _ _ _ _ _ r h => by simp [laws_FnResync.l0] at h, fun _ _ _ _ _ _ _ r h => by simp [laws_FnResync.l1] at h⟩
 | k + 1 => by
  obtain ⟨ih0, ih1⟩ := laws_FnResync.mono_l k; refine ⟨?_, ?_⟩
  · intro y0 y1 y2 y3 y4 y5; unfold laws_FnResync.l0; exact xq58
  · intro y0 y1 y2 y3 y4 y5 y6; unfold laws_FnResync.l1; exact xq58
theorem laws_FnResync.mono : ∀ a0 k, LeO (laws_FnResync.f k a0) (laws_FnResync.f (k + 1) a0) := by
 intro a0 k; obtain ⟨ih0, ih1⟩ := laws_FnResync.mono_l k
 unfold laws_FnResync.f
 exact xq58
def laws_FnResync.T21 : Bool × List (List Nat × List Nat) := (true, [([], []), ([0], [0]), ([1], [1]), ([2], [2]), ([3], [3]), ([4, 3], [3, 4]), ([5, 3], [3, 5]), ([3], [3]), ([6, 7, 3, 3], [3, 6, 7]), ([3, 8], [3, 8]), ([9, 8], [9]), ([10], [10]), ([11, 10], [10, 11]), ([10], [10]), ([12, 13, 10], [10, 12, 13]), ([10, 14], [10, 14]), ([15, 10], [15]), ([16], [16]), ([17, 16], [16, 17]), ([18, 16], [16, 18]), ([19, 16], [16, 19]), ([16, 20], [16, 20]), ([21, 16, 0, 1, 2, 3, 4, 5, 6, 7, 8, 9, 10, 11, 12, 13, 14, 15, 16, 17, 18, 19, 20, 21], [21])])
def laws_FnResync.B21 : List Nat := [0, 1, 3, 7, 15, 31, 63, 15, 255, 511, 1023, 2047, 4095, 2047, 16383, 32767, 65535, 131071, 262143, 524287, 1048575, 2097151, 4194303]
theorem laws_FnResync.tab21 : rtab .any (opsOf Try.f6 21) = laws_FnResync.T21 := by kernel_rfl
theorem laws_FnResync.bits21 : waitsOk laws_FnResync.T21.2 laws_FnResync.B21 = true := by kernel_rfl
set_option maxHeartbeats 8000000 in
set_option maxRecDepth 100000 in
theorem laws_FnResync.calls (k : Nat) (A0 : Option Addr) (c0 : Nat) (l0 : List Int) (r : Bool) (w : World) (hr0 : Kd.C (Kd.int .u8) w A0 l0.length l0) (hc0 : l0.length ≤ c0) (h : laws_FnResync.f k l0 = some r) :
 Calls Try.prog 6 #[.slice A0 l0.length c0] w fun e w' => e = .returned (.bool r) ∧ Below w.heap.size w w' := by
 have hu59 := Try.underlying59; have hu64 := Try.underlying64; have HR0 := ak hr0; have HC0 := ak hc0; clear hr0 hc0; have HB := ak (Below.refl w.heap.size w); have H : ((laws_big.f l0).bind fun t876 => (if t876 = true then (some true) else ((spec_DrawEncodeFrame.f k l0).bind fun bt877 => ((spec_FrameOk.f bt877.1 bt877.2.1 bt877.2.2).bind fun t883 => (if t883 = true then (laws_FnResync.l0 k l0 (([] : List Int)) 0 bt877.1 bt877.2.1 bt877.2.2) else (some true)))))) = some r := h; clear h; replace H := Option.bind_eq_some_iff.mp H; obtain ⟨t876, A20, H⟩ := H; (try dsimp only at H); have A2 := ak A20; clear A20
 by_cases c3 : t876 = true
 · subst c3; have H1 : (some true) = some r := by rw [if_pos rfl] at H; exact H
   clear H; have H := H1; clear H1; obtain rfl := Option.some.inj H; go_enter Try.func6, Try.ntmps6
   go_wp2_with (first | ((with_reducible refine gate_callee (f := 16) rfl ?_); refine goB 13 Try.func16 #[.slice A0 l0.length c0] rfl ?_; (with_reducible refine (laws_big.calls _ _ l0 true _ ?side1 ?side2 A2.out).mono ?_); (case side1 => exact cA HR0.out); (case side2 => exact HC0.out); rintro e w' ⟨rfl, ⟨nd, rfl⟩⟩; refine ⟨_, rfl, ?_⟩))
   go_ret
   exact ⟨xq4, belA⟩
 replace c3 := Bool.eq_false_iff.mpr c3; subst c3; have H1 : ((spec_DrawEncodeFrame.f k l0).bind fun bt877 => ((spec_FrameOk.f bt877.1 bt877.2.1 bt877.2.2).bind fun t883 => (if t883 = true then (laws_FnResync.l0 k l0 (([] : List Int)) 0 bt877.1 bt877.2.1 bt877.2.2) else (some true)))) = some r := by rw [if_neg (show ¬ (false = true) by decide)] at H; exact H
 clear H; have H := H1; clear H1; replace H := Option.bind_eq_some_iff.mp H; obtain ⟨⟨t877, t878, t879⟩, A40, H⟩ := H; (try dsimp only at H); have A4 := ak A40; clear A40; replace H := Option.bind_eq_some_iff.mp H; obtain ⟨t883, A50, H⟩ := H; (try dsimp only at H); have A5 := ak A50; clear A50
 by_cases c6 : t883 = true; rotate_left
 · replace c6 := Bool.eq_false_iff.mpr c6; subst c6; have H1 : (some true) = some r := by rw [if_neg (show ¬ (false = true) by decide)] at H; exact H
   clear H; have H := H1; clear H1; obtain rfl := Option.some.inj H; go_enter Try.func6, Try.ntmps6
   go_wp2_with (first | ((with_reducible refine gate_callee (f := 16) rfl ?_); refine goB 13 Try.func16 #[.slice A0 l0.length c0] rfl ?_; (with_reducible refine (laws_big.calls _ _ l0 false _ ?side1 ?side2 A2.out).mono ?_); (case side1 => exact cA HR0.out); (case side2 => exact HC0.out); rintro e w' ⟨rfl, ⟨nd, rfl⟩⟩; refine ⟨_, rfl, ?_⟩) | ((with_reducible refine gate_callee (f := 35) rfl ?_); refine goB 15 Try.func35 #[.slice A0 l0.length c0] rfl ?_; (with_reducible refine (spec_DrawEncodeFrame.calls k _ _ l0 t877 t878 t879 _ ?side1 ?side2 A4.out).mono ?_); (case side1 => exact cA HR0.out); (case side2 => exact HC0.out); rintro e w80 ⟨v880, rfl, ho0, hb⟩; refine ⟨_, rfl, ?_⟩; have HO881 := rL ho0; replace HB := bS hb; (try clear hb ho0)) | ((with_reducible refine gate_dst (N := 3) rfl ?_); (try (refine gate_guard (by rfl) ?_; dsimp only)); refine boxA 3 #[.int .i64 0, .int .i64 0, .slice none 0 0] 59 ?_; intro gb882 hg w81 hbox hb; have BK882 := ak hbox; have GW882 := leA (w := w) hg; have GE882 := leA (w := w) hg; replace HO881 := ak (Kd.R_below (rF HO881) hb); replace HB := bS hb; clear hb hbox hg; obtain ⟨hcz82_0, hcz82_1, hcz82_2, hfz82_0, hfz82_1, hfz82_2⟩ := cel3 BK882; obtain ⟨Ao83, co83, eo83⟩ := Kd.R_slice HO881.out; subst eo83) | ((with_reducible refine gate_callee (f := 36) rfl ?_); refine goB 17 Try.func36 #[.agg #[.int .i64 t877, .int .i64 t878, .slice Ao83 t879.length co83]] rfl ?_; (with_reducible refine (spec_FrameOk.calls t877 t878 _ _ t879 false _ ?side1 ?side2 A5.out).mono ?_); (case side1 => refine (Kd.R_reads' (e := 5) (base := w.heap.size) (ok := fun k_ => True) (n := t879.length) (c := co83) ?_).2.2; exact (rE (Kd.R_mono (Kd.R_far (p := ⟨gb882, 2, none⟩) (Kd.R_far (p := ⟨gb882, 1, none⟩) (Kd.R_far (p := ⟨gb882, 0, none⟩) (Kd.R_types HO881.out BK882.out (by decide)) (fun _ hk => hk.2) (.int .i64 t877)) (fun _ hk => hk.2) (.int .i64 t878)) (fun _ hk => hk.2) (.slice Ao83 t879.length co83)) (fun _ h_ => h_.1)))); (case side2 => exact (Kd.R_reads' HO881.out).2.1); rintro e w84 ⟨rfl, hb⟩; refine ⟨_, rfl, ?_⟩; replace HO881 := ak (Kd.R_below (rE (Kd.R_mono (Kd.R_far (p := ⟨gb882, 2, none⟩) (Kd.R_far (p := ⟨gb882, 1, none⟩) (Kd.R_far (p := ⟨gb882, 0, none⟩) (Kd.R_types HO881.out BK882.out (by decide)) (fun _ hk => hk.2) (.int .i64 t877)) (fun _ hk => hk.2) (.int .i64 t878)) (fun _ hk => hk.2) (.slice Ao83 t879.length co83)) (fun _ h_ => h_.1))) hb); replace BK882 := ak (blk_below (g := gb882) (o := .cells #[.int .i64 t877, .int .i64 t878, .slice Ao83 t879.length co83] 59 (0, 0)) xq91 hb); replace HB := bS hb; (try clear hb)))
   go_ret
   exact ⟨xq4, belA⟩
 subst c6; have H1 : (laws_FnResync.l0 k l0 (([] : List Int)) 0 t877 t878 t879) = some r := by rw [if_pos rfl] at H; exact H
 clear H; have H := H1; clear H1; obtain ⟨y884, hyq⟩ : ∃ y_ : List Int, y_ = (([] : List Int)) := ⟨_, rfl⟩; replace H : (laws_FnResync.l0 k l0 y884 0 t877 t878 t879) = some r := by first | (rw [hyq]; with_reducible exact H) | (have H2_ := (Option.bind_some _ _).symm.trans H; rw [hyq]; with_reducible exact H2_) | (have H2_ := (Option.bind_some _ _).symm.trans H; with_reducible exact H2_) | with_reducible exact H | (rw [hyq]; exact H) | exact H
 have Ny884 := ak hyq; clear hyq; have H' := ak H; clear H; go_enter Try.func6, Try.ntmps6
 go_wp2_with (first | ((with_reducible refine gate_callee (f := 16) rfl ?_); refine goB 13 Try.func16 #[.slice A0 l0.length c0] rfl ?_; (with_reducible refine (laws_big.calls _ _ l0 false _ ?side1 ?side2 A2.out).mono ?_); (case side1 => exact cA HR0.out); (case side2 => exact HC0.out); rintro e w' ⟨rfl, ⟨nd, rfl⟩⟩; refine ⟨_, rfl, ?_⟩) | ((with_reducible refine gate_callee (f := 35) rfl ?_); refine goB 15 Try.func35 #[.slice A0 l0.length c0] rfl ?_; (with_reducible refine (spec_DrawEncodeFrame.calls k _ _ l0 t877 t878 t879 _ ?side1 ?side2 A4.out).mono ?_); (case side1 => exact cA HR0.out); (case side2 => exact HC0.out); rintro e w7 ⟨v880, rfl, ho0, hb⟩; refine ⟨_, rfl, ?_⟩; have HO881 := rL ho0; replace HB := bS hb; (try clear hb ho0)) | ((with_reducible refine gate_dst (N := 3) rfl ?_); (try (refine gate_guard (by rfl) ?_; dsimp only)); refine boxA 3 #[.int .i64 0, .int .i64 0, .slice none 0 0] 59 ?_; intro gb882 hg w8 hbox hb; have BK882 := ak hbox; have GW882 := leA (w := w) hg; have GE882 := leA (w := w) hg; replace HO881 := ak (Kd.R_below (rF HO881) hb); replace HB := bS hb; clear hb hbox hg; obtain ⟨hcz9_0, hcz9_1, hcz9_2, hfz9_0, hfz9_1, hfz9_2⟩ := cel3 BK882; obtain ⟨Ao10, co10, eo10⟩ := Kd.R_slice HO881.out; subst eo10) | ((with_reducible refine gate_callee (f := 36) rfl ?_); refine goB 17 Try.func36 #[.agg #[.int .i64 t877, .int .i64 t878, .slice Ao10 t879.length co10]] rfl ?_; (with_reducible refine (spec_FrameOk.calls t877 t878 _ _ t879 true _ ?side1 ?side2 A5.out).mono ?_); (case side1 => refine (Kd.R_reads' (e := 5) (base := w.heap.size) (ok := fun k_ => True) (n := t879.length) (c := co10) ?_).2.2; exact (rE (Kd.R_mono (Kd.R_far (p := ⟨gb882, 2, none⟩) (Kd.R_far (p := ⟨gb882, 1, none⟩) (Kd.R_far (p := ⟨gb882, 0, none⟩) (Kd.R_types HO881.out BK882.out (by decide)) (fun _ hk => hk.2) (.int .i64 t877)) (fun _ hk => hk.2) (.int .i64 t878)) (fun _ hk => hk.2) (.slice Ao10 t879.length co10)) (fun _ h_ => h_.1)))); (case side2 => exact (Kd.R_reads' HO881.out).2.1); rintro e w11 ⟨rfl, hb⟩; refine ⟨_, rfl, ?_⟩; replace HO881 := ak (Kd.R_below (rE (Kd.R_mono (Kd.R_far (p := ⟨gb882, 2, none⟩) (Kd.R_far (p := ⟨gb882, 1, none⟩) (Kd.R_far (p := ⟨gb882, 0, none⟩) (Kd.R_types HO881.out BK882.out (by decide)) (fun _ hk => hk.2) (.int .i64 t877)) (fun _ hk => hk.2) (.int .i64 t878)) (fun _ hk => hk.2) (.slice Ao10 t879.length co10)) (fun _ h_ => h_.1))) hb); replace BK882 := ak (blk_below (g := gb882) (o := .cells #[.int .i64 t877, .int .i64 t878, .slice Ao10 t879.length co10] 59 (0, 0)) xq91 hb); replace HB := bS hb; (try clear hb)) | ((with_reducible refine gate_dst (N := 19) rfl ?_); (try (refine gate_guard (by rfl) ?_; dsimp only)); refine Kd.R_lit (Kd.int .u8) _ 5 ?hg (N := 19) ?hd (xs := ([] : List Int)) (inner := []) (ok := fun _ => True) (okp := fun _ => True) ?hr ?hp (fun _ hk => hk) trivial (Below.refl _ _) (Nat.le_refl _) (by simp) ?_; (case hd => rfl); (case hg => rfl); (case hr => exact xq9); (case hp => exact (Reps.none _ _)); intro v885 w12 ho13 hb hg_ hnew_; clear hg_ hnew_; (first | rw [← Ny884.out] at ho13 | (simp only [Int.reduceToNat] at ho13; rw [← Ny884.out] at ho13)); have HO886 := rL (Kd.R_new' ho13 (Kd.R_lt (rF HO881))); replace HO881 := ak (Kd.R_elder' (rF HO881) (Kd.R_base ho13) hb); replace BK882 := bB BK882 hb; replace HB := bS hb; clear hb ho13))
 go_loopg [4, 5] k (fun kq v4 v5 w' => ∃ (x4_1 : List Int) (x5_1 : Int), v5 = .int .i64 x5_1 ∧ Aside0 (laws_FnResync.l0 kq l0 x4_1 x5_1 t877 t878 t879 = some r) ∧ Aside0 (kq ≤ k) ∧ Aside0 (Kd.R (Kd.int .u8) 5 w' w.heap.size (fun k_ => some k_ ≠ ((.slice Ao10 t879.length co10) : Value).ownBlock) v4 x4_1) ∧ Aside0 (Kd.R (Kd.int .u8) 5 w' w.heap.size (fun k_ => some k_ ≠ (v4 : Value).ownBlock) (.slice Ao10 t879.length co10) t879) ∧ Aside0 (w'.heap[gb882]? = some (.cells #[.int .i64 t877, .int .i64 t878, (.slice Ao10 t879.length co10)] 59 (0, 0))) ∧ Aside0 (Below w.heap.size w w'))
 case atStart => exact ⟨(y884), (0), eqA, H', ⟨Nat.le_refl _⟩, ⟨rE (Kd.R_mono HO886.out (fun _ hk => hk.2))⟩, ⟨rE (Kd.R_mono HO881.out (fun _ hk => hk.2))⟩, ⟨blkA⟩, ⟨belA⟩⟩
 case round =>
  clear H'; obtain ⟨x4_1, x5_1, rfl, HA, HK1, HO_4, HO_883002, BK882, HB⟩ := hrel
  cases gk with
  | zero => exact absurd HA.out (by simp [laws_FnResync.l0])
  | succ k1 =>
   have H := HA.out; clear HA; simp only [laws_FnResync.l0] at H; replace H := Option.bind_eq_some_iff.mp H; obtain ⟨t887, A140, H⟩ := H; (try dsimp only at H); have A14 := ak A140; clear A140
   by_cases c15 : x5_1 < t887
   · rw [if_pos c15] at H; have c15b0 := decide_eq_true c15; clear c15; replace H := Option.bind_eq_some_iff.mp H; obtain ⟨t888, A160, H⟩ := H; (try dsimp only at H); have A16 := ak A160; clear A160
     by_cases c17 : t888 = 199
     · rw [if_pos c17] at H; have c17b0 : (t888 == 199) = true := beq_iff_eq.mpr c17; have c17b1 : (t888 != 199) = false := bne_eq_false_iff_eq.mpr c17; clear c17
       by_cases c18 : x4_1.length < 140737488355328; rotate_left
       · rw [if_neg c18] at H; exact absurd H (by simp)
       rw [if_pos c18] at H; have LMc18 := ak c18; clear c18; obtain ⟨y889, hyq⟩ : ∃ y_ : List Int, y_ = (x4_1 ++ [77]) := ⟨_, rfl⟩; replace H : (laws_FnResync.l0 k1 l0 y889 (wrap64 (x5_1 + 1)) t877 t878 t879) = some r := by first | (rw [hyq]; with_reducible exact H) | (have H2_ := (Option.bind_some _ _).symm.trans H; rw [hyq]; with_reducible exact H2_) | (have H2_ := (Option.bind_some _ _).symm.trans H; with_reducible exact H2_) | with_reducible exact H | (rw [hyq]; exact H) | exact H
       have Ny889 := ak hyq; clear hyq; have H' := ak H; clear H; go_wp2_with (first | ((with_reducible refine gate_callee (f := 37) rfl ?_); refine goB 22 Try.func37 #[.slice A0 l0.length c0, .int .i64 0] rfl ?_; (with_reducible refine (laws_at.calls _ _ l0 0 t887 _ ?side1 ?side2 A14.out).mono ?_); (case side1 => exact cA (Kd.C_below HR0.out HB.out)); (case side2 => exact HC0.out); rintro e w' ⟨rfl, ⟨nd, rfl⟩⟩; refine ⟨_, rfl, ?_⟩) | ((with_reducible refine gate_callee (f := 37) rfl ?_); refine goB 29 Try.func37 #[.slice A0 l0.length c0, .int .i64 (wrap64 (x5_1 + 1))] rfl ?_; (with_reducible refine (laws_at.calls _ _ l0 (wrap64 (x5_1 + 1)) t888 _ ?side1 ?side2 A16.out).mono ?_); (case side1 => exact cA (Kd.C_below HR0.out belA)); (case side2 => exact HC0.out); rintro e w' ⟨rfl, ⟨nd, rfl⟩⟩; refine ⟨_, rfl, ?_⟩) | ((with_reducible refine gate_builtin (b := .append) (xs := #[.tmp 32, .tmp 35]) rfl ?_); (try (refine gate_guard (by rfl) ?_; dsimp only)); at_builtin; refine Kd.R_append (Kd.int .u8) (w0 := w) w.heap.size rfl (.tmp 32) (.tmp 35) 35 5 (.int .u8 0) 1 rfl Try.underlying35 info5 rfl (by decide) (by omega) u4 x4_1 77 [.int .u8 77] (fun k_ => some k_ ≠ (.slice Ao10 t879.length co10 : Value).ownBlock) (fun _ => False) rfl rfl ?aP (fun _ hk => hk.elim) ?aF ?aO ?aB ?aS ?aL ?_; (case aP => exact rfl); (case aB => exact belA); (case aF => exact (fun k_ hk => Kd.fresh' (Kd.R_lt (rF HO_883002)) k_ hk)); (case aO => exact (rF HO_4)); (case aS => exact (below_size belA)); (case aL => have := LMc18.out; omega); intro v890 w19 ho hb hg hat; rw [← Ny889.out] at ho; have HO891 := ak ho; replace HO_883002 := ak (Kd.R_after (ok := (fun _ => True)) xq92 hg hat); replace BK882 := ak (blk_grown (g := gb882) (o := .cells #[.int .i64 t877, .int .i64 t878, .slice Ao10 t879.length co10] 59 (0, 0)) blkA hg (Kd.R_ne HO_4.out BK882.out (by decide))); replace HB := ak hb; clear HO_4; clear ho hb hg hat))
       go_roundg k1
       case measure => have := HK1.out; omega
       case rel => exact ⟨(y889), (wrap64 (x5_1 + 1)), eqA, H', ⟨xq14⟩, ⟨rA HO891⟩, ⟨rE (Kd.R_mono HO_883002.out (fun _ hk => hk.2))⟩, ⟨blkA⟩, ⟨belA⟩⟩
     rw [if_neg c17] at H; have c17b0 : (t888 == 199) = false := beq_eq_false_iff_ne.mpr c17; have c17b1 : (t888 != 199) = true := bne_iff_ne.mpr c17
     by_cases c20 : x4_1.length < 140737488355328; rotate_left
     · rw [if_neg c20] at H; exact absurd H (by simp)
     rw [if_pos c20] at H; have LMc20 := ak c20; clear c20; obtain ⟨y892, hyq⟩ : ∃ y_ : List Int, y_ = (x4_1 ++ [(t888) % 256]) := ⟨_, rfl⟩; replace H : (laws_FnResync.l0 k1 l0 y892 (wrap64 (x5_1 + 1)) t877 t878 t879) = some r := by first | (rw [hyq]; with_reducible exact H) | (have H2_ := (Option.bind_some _ _).symm.trans H; rw [hyq]; with_reducible exact H2_) | (have H2_ := (Option.bind_some _ _).symm.trans H; with_reducible exact H2_) | with_reducible exact H | (rw [hyq]; exact H) | exact H
     have Ny892 := ak hyq; clear hyq; have H' := ak H; clear H; go_wp2_with (first | ((with_reducible refine gate_callee (f := 37) rfl ?_); refine goB 22 Try.func37 #[.slice A0 l0.length c0, .int .i64 0] rfl ?_; (with_reducible refine (laws_at.calls _ _ l0 0 t887 _ ?side1 ?side2 A14.out).mono ?_); (case side1 => exact cA (Kd.C_below HR0.out HB.out)); (case side2 => exact HC0.out); rintro e w' ⟨rfl, ⟨nd, rfl⟩⟩; refine ⟨_, rfl, ?_⟩) | ((with_reducible refine gate_callee (f := 37) rfl ?_); refine goB 29 Try.func37 #[.slice A0 l0.length c0, .int .i64 (wrap64 (x5_1 + 1))] rfl ?_; (with_reducible refine (laws_at.calls _ _ l0 (wrap64 (x5_1 + 1)) t888 _ ?side1 ?side2 A16.out).mono ?_); (case side1 => exact cA (Kd.C_below HR0.out belA)); (case side2 => exact HC0.out); rintro e w' ⟨rfl, ⟨nd, rfl⟩⟩; refine ⟨_, rfl, ?_⟩) | ((with_reducible refine gate_builtin (b := .append) (xs := #[.tmp 32, .tmp 35]) rfl ?_); (try (refine gate_guard (by rfl) ?_; dsimp only)); at_builtin; refine Kd.R_append (Kd.int .u8) (w0 := w) w.heap.size rfl (.tmp 32) (.tmp 35) 35 5 (.int .u8 0) 1 rfl Try.underlying35 info5 rfl (by decide) (by omega) u4 x4_1 ((t888) % 256) [.int .u8 ((t888) % 256)] (fun k_ => some k_ ≠ (.slice Ao10 t879.length co10 : Value).ownBlock) (fun _ => False) rfl rfl ?aP (fun _ hk => hk.elim) ?aF ?aO ?aB ?aS ?aL ?_; (case aP => exact rfl); (case aB => exact belA); (case aF => exact (fun k_ hk => Kd.fresh' (Kd.R_lt (rF HO_883002)) k_ hk)); (case aO => exact (rF HO_4)); (case aS => exact (below_size belA)); (case aL => have := LMc20.out; omega); intro v893 w21 ho hb hg hat; rw [← Ny892.out] at ho; have HO894 := ak ho; replace HO_883002 := ak (Kd.R_after (ok := (fun _ => True)) xq92 hg hat); replace BK882 := ak (blk_grown (g := gb882) (o := .cells #[.int .i64 t877, .int .i64 t878, .slice Ao10 t879.length co10] 59 (0, 0)) blkA hg (Kd.R_ne HO_4.out BK882.out (by decide))); replace HB := ak hb; clear HO_4; clear ho hb hg hat))
     go_roundg k1
     case measure => have := HK1.out; omega
     case rel => exact ⟨(y892), (wrap64 (x5_1 + 1)), eqA, H', ⟨xq14⟩, ⟨rA HO894⟩, ⟨rE (Kd.R_mono HO_883002.out (fun _ hk => hk.2))⟩, ⟨blkA⟩, ⟨belA⟩⟩
   rw [if_neg c15] at H; have c15b0 := decide_eq_false c15; clear c15; replace H := Option.bind_eq_some_iff.mp H; obtain ⟨t895, A220, H⟩ := H; (try dsimp only at H); have A22 := ak A220; clear A220; have H' := ak H; clear H; go_wp2_with (first | ((with_reducible refine gate_callee (f := 37) rfl ?_); refine goB 22 Try.func37 #[.slice A0 l0.length c0, .int .i64 0] rfl ?_; (with_reducible refine (laws_at.calls _ _ l0 0 t887 _ ?side1 ?side2 A14.out).mono ?_); (case side1 => exact cA (Kd.C_below HR0.out HB.out)); (case side2 => exact HC0.out); rintro e w' ⟨rfl, ⟨nd, rfl⟩⟩; refine ⟨_, rfl, ?_⟩; obtain ⟨Ao23, co23, eo23⟩ := Kd.R_slice HO_4.out; subst eo23; obtain ⟨hcz24_0, hcz24_1, hcz24_2, hfz24_0, hfz24_1, hfz24_2⟩ := cel3 BK882) | ((with_reducible refine gate_callee (f := 38) rfl ?_); refine goB 40 Try.func38 #[.agg #[.int .i64 t877, .int .i64 t878, .slice Ao10 t879.length co10]] rfl ?_; (with_reducible refine (impl_EncodeFrame.calls k1 t877 t878 _ _ t879 t895 _ ?side1 ?side2 A22.out).mono ?_); (case side1 => exact xq44); (case side2 => exact (Kd.R_reads' HO_883002.out).2.1); rintro e w25 ⟨v896, rfl, ho0, hb⟩; refine ⟨_, rfl, ?_⟩; have HO897 := rL (Kd.R_new' (Kd.R_new' ho0 (Kd.R_lt (rF HO_4))) (Kd.R_lt (rF HO_883002))); replace HO_4 := ak (Kd.R_elder' (rF HO_4) (Kd.R_base ho0) hb); replace HO_883002 := ak (Kd.R_elder' (rF HO_883002) (Kd.R_base ho0) hb); replace BK882 := bB BK882 hb; replace HB := bS hb; (try clear hb ho0)))
   go_loopg [4, 9] k1 (fun kq v4 v9 w' => ∃ (x4_2 : List Int) (x9_2 : Int), v9 = .int .i64 x9_2 ∧ Aside0 (laws_FnResync.l1 kq x4_2 (x4_1.length : Int) t895 x9_2 t877 t878 t879 = some r) ∧ Aside0 (kq ≤ k1) ∧ Aside0 (Kd.R (Kd.int .u8) 5 w' w.heap.size (fun k_ => some k_ ≠ (v896 : Value).ownBlock ∧ some k_ ≠ ((.slice Ao10 t879.length co10) : Value).ownBlock) v4 x4_2) ∧ Aside0 (Kd.R (Kd.int .u8) 5 w' w.heap.size (fun k_ => some k_ ≠ (v4 : Value).ownBlock ∧ some k_ ≠ ((.slice Ao10 t879.length co10) : Value).ownBlock) v896 t895) ∧ Aside0 (Kd.R (Kd.int .u8) 5 w' w.heap.size (fun k_ => some k_ ≠ (v4 : Value).ownBlock ∧ some k_ ≠ (v896 : Value).ownBlock) (.slice Ao10 t879.length co10) t879) ∧ Aside0 (w'.heap[gb882]? = some (.cells #[.int .i64 t877, .int .i64 t878, (.slice Ao10 t879.length co10)] 59 (0, 0))) ∧ Aside0 (Below w.heap.size w w'))
   case atStart => exact ⟨(x4_1), (0), eqA, H', ⟨Nat.le_refl _⟩, ⟨rE (Kd.R_mono HO_4.out (fun _ hk => ⟨hk.2, hk.1⟩))⟩, ⟨rE (Kd.R_mono HO897.out (fun _ hk => ⟨hk.1.2, hk.2⟩))⟩, ⟨rA HO_883002⟩, ⟨blkA⟩, ⟨belA⟩⟩
   case round =>
    clear H'; obtain ⟨x4_2, x9_2, rfl, HA, HK2, HO_4, HO_8, HO_883002, BK882, HB⟩ := hrel
    cases gk with
    | zero => exact absurd HA.out (by simp [laws_FnResync.l1])
    | succ k2 =>
     have H := HA.out; clear HA; simp only [laws_FnResync.l1] at H
     by_cases c26 : x9_2 < (t895.length : Int)
     · rw [if_pos c26] at H; have c26b0 := decide_eq_true c26; clear c26
       by_cases c27 : 0 ≤ x9_2; rotate_left
       · rw [if_neg c27] at H; exact absurd H (by simp)
       rw [if_pos c27] at H; have c27b0 := decide_eq_true c27; clear c27
       by_cases c28 : x4_2.length < 140737488355328; rotate_left
       · rw [if_neg c28] at H; exact absurd H (by simp)
       rw [if_pos c28] at H; have LMc28 := ak c28; clear c28; obtain ⟨y899, hyq⟩ : ∃ y_ : List Int, y_ = (x4_2 ++ [rd t895 x9_2]) := ⟨_, rfl⟩; replace H : (laws_FnResync.l1 k2 y899 (x4_1.length : Int) t895 (wrap64 (x9_2 + 1)) t877 t878 t879) = some r := by first | (rw [hyq]; with_reducible exact H) | (have H2_ := (Option.bind_some _ _).symm.trans H; rw [hyq]; with_reducible exact H2_) | (have H2_ := (Option.bind_some _ _).symm.trans H; with_reducible exact H2_) | with_reducible exact H | (rw [hyq]; exact H) | exact H
       have Ny899 := ak hyq; clear hyq; have H' := ak H; clear H; obtain ⟨Ao29, co29, eo29⟩ := Kd.R_slice HO_8.out; subst eo29; have p898 : 0 ≤ (x9_2 : Int) := odA; have q898 : x9_2 < (t895.length : Int) := odA; obtain ⟨ad898, e898, hx898_0⟩ := Kd.at_int (Kd.R_reads' HO_8.out).2.2 x9_2 p898 q898
       cases e898
       replace p898 := eq_true p898; replace q898 := eq_true q898; go_wp2_with (first | ((with_reducible refine gate_builtin (b := .append) (xs := #[.tmp 47, .tmp 52]) rfl ?_); (try (refine gate_guard (by rfl) ?_; dsimp only)); at_builtin; refine Kd.R_append (Kd.int .u8) (w0 := w) w.heap.size rfl (.tmp 47) (.tmp 52) 35 5 (.int .u8 0) 1 rfl Try.underlying35 info5 rfl (by decide) (by omega) u4 x4_2 (rd t895 x9_2) [.int .u8 (rd t895 x9_2)] (fun k_ => some k_ ≠ (.slice (some ad898) t895.length co29 : Value).ownBlock ∧ some k_ ≠ (.slice Ao10 t879.length co10 : Value).ownBlock) (fun _ => False) rfl rfl ?aP (fun _ hk => hk.elim) ?aF ?aO ?aB ?aS ?aL ?_; (case aP => exact rfl); (case aB => exact belA); (case aF => exact (fun k_ hk => ⟨Kd.fresh' (Kd.R_lt (rF HO_8)) k_ hk, Kd.fresh' (Kd.R_lt (rF HO_883002)) k_ hk⟩)); (case aO => exact (rF HO_4)); (case aS => exact (below_size belA)); (case aL => have := LMc28.out; omega); intro v900 w30 ho hb hg hat; rw [← Ny899.out] at ho; have HO901 := ak ho; replace HO_8 := ak (Kd.R_after (ok := (fun k_ => some k_ ≠ (.slice Ao10 t879.length co10 : Value).ownBlock)) (by (with_reducible repeat (first | apply Kd.R_alloc | apply Kd.R_drewN | apply Kd.R_drew)); first | exact Kd.R_mono HO_8.out (fun _ hk => ⟨hk.2, hk.1⟩) | exact Kd.R_mono HO_8.out (fun _ _ => trivial)) hg hat); replace HO_883002 := ak (Kd.R_after (ok := (fun k_ => some k_ ≠ (.slice (some ad898) t895.length co29 : Value).ownBlock)) (by (with_reducible repeat (first | apply Kd.R_alloc | apply Kd.R_drewN | apply Kd.R_drew)); first | exact Kd.R_mono HO_883002.out (fun _ hk => ⟨hk.2, hk.1⟩) | exact Kd.R_mono HO_883002.out (fun _ _ => trivial)) hg hat); replace BK882 := ak (blk_grown (g := gb882) (o := .cells #[.int .i64 t877, .int .i64 t878, .slice Ao10 t879.length co10] 59 (0, 0)) blkA hg (Kd.R_ne HO_4.out BK882.out (by decide))); replace HB := ak hb; clear HO_4; clear ho hb hg hat))
       go_roundg k2
       case measure => have := HK1.out; have := HK2.out; omega
       case rel => exact ⟨(y899), (wrap64 (x9_2 + 1)), eqA, H', ⟨by have := HK1.out; have := HK2.out; omega⟩, ⟨rA HO901⟩, ⟨rE (Kd.R_mono HO_8.out (fun _ hk => ⟨hk.2, hk.1⟩))⟩, ⟨rE (Kd.R_mono HO_883002.out (fun _ hk => ⟨hk.2, hk.1⟩))⟩, ⟨blkA⟩, ⟨belA⟩⟩
     rw [if_neg c26] at H; have c26b0 := decide_eq_false c26; clear c26; replace H := Option.bind_eq_some_iff.mp H; obtain ⟨⟨t902, t905, t906⟩, A310, H⟩ := H; (try dsimp only at H); have A31 := ak A310; clear A310
     by_cases c32 : (t906.length : Int) = 1; rotate_left
     · rw [if_neg c32] at H; have c32b0 : ((t906.length : Int) == 1) = false := beq_eq_false_iff_ne.mpr c32; have c32b1 : ((t906.length : Int) != 1) = true := bne_iff_ne.mpr c32; obtain rfl := Option.some.inj H; obtain ⟨Ao70, co70, eo70⟩ := Kd.R_slice HO_8.out; subst eo70; obtain ⟨Ao71, co71, eo71⟩ := Kd.R_slice HO_4.out; subst eo71; try go_wp2_with (first | ((with_reducible refine gate_callee (f := 39) rfl ?_); refine goB 57 Try.func39 #[.agg #[.slice none 0 0, .int .i64 0], .slice Ao71 x4_2.length co71] rfl ?_; (refine (impl_Feed.calls k2 _ _ ([] : List Int) 0 _ _ x4_2 t902 t905 t906 _ ?side1 ?side2 ?side3 ?side4 A31.out).mono ?_); (case side1 => exact Kd.C_nil _ _); (case side2 => exact Nat.le_refl _); (case side3 => exact cA ((Kd.R_reads' HO_4.out).2.2)); (case side4 => exact (Kd.R_reads' HO_4.out).2.1); rintro e w72 ⟨v903, v907, rfl, ho0, ho1, hb⟩; refine ⟨_, rfl, ?_⟩; have HO904 := rL (Kd.R_new' (Kd.R_new' (Kd.R_new' ho0 (Kd.R_lt (rF HO_4))) (Kd.R_lt (rF HO_8))) (Kd.R_lt (rF HO_883002))); have HO908 := sL (Kd.S_newB (Kd.S_new' (Kd.S_new' (Kd.S_new' ho1 (Kd.R_lt (rF HO_4))) (Kd.R_lt (rF HO_8))) (Kd.R_lt (rF HO_883002))) (g := gb882) (o := .cells #[.int .i64 t877, .int .i64 t878, .slice Ao10 t879.length co10] 59 (0, 0)) blkA); replace HO_4 := ak (Kd.R_elder' (rF HO_4) (Kd.R_base ho0) hb); replace HO_8 := ak (Kd.R_elder' (rF HO_8) (Kd.R_base ho0) hb); replace HO_883002 := ak (Kd.R_elder' (rF HO_883002) (Kd.R_base ho0) hb); replace BK882 := bB BK882 hb; replace HB := bS hb; (try clear hb ho0 ho1)) | ((with_reducible refine gate_dst (N := 10) rfl ?_); (try (refine gate_guard (by rfl) ?_; dsimp only)); refine boxA 10 #[.slice none 0 0, .int .i64 0] 64 ?_; intro gb909 hg w73 hbox hb; have BK909 := ak hbox; have GW909 := leA (w := w) hg; have GE909 := leA (w := w) hg; have NB882_909 := neL hg BK882; have NB909_882 := neG hg BK882; replace HO_4 := ak (Kd.R_below (rF HO_4) hb); replace HO_8 := ak (Kd.R_below (rF HO_8) hb); replace HO_883002 := ak (Kd.R_below (rF HO_883002) hb); replace HO904 := ak (Kd.R_below (rF HO904) hb); replace HO908 := sB HO908 hb; replace BK882 := bB BK882 hb; replace HB := bS hb; clear hb hbox hg; obtain ⟨Ao74, co74, eo74⟩ := Kd.R_slice HO904.out; subst eo74; have hnb75 := NB909_882.out; have hnc75 := NB882_909.out; obtain ⟨hcz76_0, hcz76_1, hfz76_0, hfz76_1⟩ := cel2 BK909))
       generalize hw_ : ((w73.setCell ⟨gb909, 0, none⟩ (.slice Ao74 t902.length co74)).setCell ⟨gb909, 1, none⟩ (.int .i64 t905)) = w77; have n0_ : Aside0 (Kd.R (Kd.int .u8) 5 w77 w.heap.size (fun k_ => some k_ ≠ (.slice Ao70 t895.length co70 : Value).ownBlock ∧ some k_ ≠ (.slice Ao10 t879.length co10 : Value).ownBlock ∧ some k_ ≠ (.slice Ao74 t902.length co74 : Value).ownBlock) (.slice Ao71 x4_2.length co71) x4_2) := ⟨by rw [← hw_]; exact (Kd.R_mono (Kd.R_far (p := ⟨gb909, 1, none⟩) (Kd.R_far (p := ⟨gb909, 0, none⟩) (Kd.R_types HO_4.out BK909.out (by decide)) (fun _ hk => hk.2) (.slice Ao74 t902.length co74)) (fun _ hk => hk.2) (.int .i64 t905)) (fun _ hk => ⟨hk.1.1.1, ⟨hk.1.1.2, hk.1.2⟩⟩))⟩; have n1_ : Aside0 (Kd.R (Kd.int .u8) 5 w77 w.heap.size (fun k_ => some k_ ≠ (.slice Ao71 x4_2.length co71 : Value).ownBlock ∧ some k_ ≠ (.slice Ao10 t879.length co10 : Value).ownBlock ∧ some k_ ≠ (.slice Ao74 t902.length co74 : Value).ownBlock) (.slice Ao70 t895.length co70) t895) := ⟨by rw [← hw_]; exact (Kd.R_mono (Kd.R_far (p := ⟨gb909, 1, none⟩) (Kd.R_far (p := ⟨gb909, 0, none⟩) (Kd.R_types HO_8.out BK909.out (by decide)) (fun _ hk => hk.2) (.slice Ao74 t902.length co74)) (fun _ hk => hk.2) (.int .i64 t905)) (fun _ hk => ⟨hk.1.1.1, ⟨hk.1.1.2, hk.1.2⟩⟩))⟩; have n2_ : Aside0 (Kd.R (Kd.int .u8) 5 w77 w.heap.size (fun k_ => some k_ ≠ (.slice Ao71 x4_2.length co71 : Value).ownBlock ∧ some k_ ≠ (.slice Ao70 t895.length co70 : Value).ownBlock ∧ some k_ ≠ (.slice Ao74 t902.length co74 : Value).ownBlock) (.slice Ao10 t879.length co10) t879) := ⟨by rw [← hw_]; exact (Kd.R_mono (Kd.R_far (p := ⟨gb909, 1, none⟩) (Kd.R_far (p := ⟨gb909, 0, none⟩) (Kd.R_types HO_883002.out BK909.out (by decide)) (fun _ hk => hk.2) (.slice Ao74 t902.length co74)) (fun _ hk => hk.2) (.int .i64 t905)) (fun _ hk => ⟨hk.1.1.1, ⟨hk.1.1.2, hk.1.2⟩⟩))⟩; have n3_ : Aside0 (Kd.R (Kd.int .u8) 5 w77 w.heap.size (fun k_ => some k_ ≠ (.slice Ao71 x4_2.length co71 : Value).ownBlock ∧ some k_ ≠ (.slice Ao70 t895.length co70 : Value).ownBlock ∧ some k_ ≠ (.slice Ao10 t879.length co10 : Value).ownBlock) (.slice Ao74 t902.length co74) t902) := ⟨by rw [← hw_]; exact (Kd.R_mono (Kd.R_far (p := ⟨gb909, 1, none⟩) (Kd.R_far (p := ⟨gb909, 0, none⟩) (Kd.R_types HO904.out BK909.out (by decide)) (fun _ hk => hk.2) (.slice Ao74 t902.length co74)) (fun _ hk => hk.2) (.int .i64 t905)) (fun _ hk => ⟨hk.1.1.1.2, ⟨hk.1.1.2, hk.1.2⟩⟩))⟩; have n4_ : Aside0 (Kd.S k59 59 w77 w.heap.size (fun k_ => some k_ ≠ (.slice Ao71 x4_2.length co71 : Value).ownBlock ∧ some k_ ≠ (.slice Ao70 t895.length co70 : Value).ownBlock ∧ some k_ ≠ (.slice Ao10 t879.length co10 : Value).ownBlock ∧ some k_ ≠ (.slice Ao74 t902.length co74 : Value).ownBlock ∧ k_ ≠ gb882) v907 t906) := ⟨by rw [← hw_]; exact (Kd.S_mono (Kd.S_far (p := ⟨gb909, 1, none⟩) (Kd.S_far (p := ⟨gb909, 0, none⟩) (Kd.S_types HO908.out BK909.out (by decide)) (fun _ hk => hk.2) (.slice Ao74 t902.length co74)) (fun _ hk => hk.2) (.int .i64 t905)) (fun _ hk => ⟨hk.1.1.1.1.2, ⟨hk.1.1.1.2, ⟨hk.1.1.2, ⟨hk.1.1.1.1.1, hk.1.2⟩⟩⟩⟩))⟩; have n5_ : Aside0 (w77.heap[gb882]? = some (.cells #[.int .i64 t877, .int .i64 t878, .slice Ao10 t879.length co10] 59 (0, 0))) := ⟨xq43⟩; have n6_ : Aside0 (w77.heap[gb909]? = some (.cells #[.slice Ao74 t902.length co74, .int .i64 t905] 64 (0, 0))) := ⟨by rw [← hw_]; refine blk_put (cs := #[.slice Ao74 t902.length co74, .int .i64 0]) ?_ 1 _ rfl; refine blk_put (cs := #[.slice none 0 0, .int .i64 0]) ?_ 0 _ rfl; exact BK909.out⟩; have n7_ : Aside0 (Below w.heap.size w w77) := ⟨by rw [← hw_]; exact belA⟩; (try clear HO_4); (try clear HO_8); (try clear HO_883002); (try clear HO904); (try clear HO908); (try clear BK882); (try clear BK909); (try clear HB); clear hw_; have HO_4 := n0_; have HO_8 := n1_; have HO_883002 := n2_; have HO904 := n3_; have HO908 := n4_; have BK882 := n5_; have BK909 := n6_; have HB := n7_; clear n0_ n1_ n2_ n3_ n4_ n5_ n6_ n7_; replace HO_4 := ak (Kd.R_drew HO_4.out); replace HO_8 := ak (Kd.R_drew HO_8.out); replace HO_883002 := ak (Kd.R_drew HO_883002.out); replace HO904 := ak (Kd.R_drew HO904.out); replace HO908 := ak (Kd.S_drew HO908.out); replace BK882 := ak (blk_drew BK882.out); replace BK909 := ak (blk_drew BK909.out); replace HB := ak (below_drew1 HB.out); obtain ⟨Ao79, co79, eo79⟩ := Kd.S_slice HO908.out; (first | subst eo79 | (injection eo79 with f1_ f2_ f3_; have f4_ := f1_.symm; have f5_ := f3_.symm; clear f1_ f2_ f3_; subst f4_; subst f5_))
       refine start_ (n := 23) (S := fun w' => True) (ds := []) #[false, false, false, false, false, false, false, false, false, false, false, false, false, false, false, false, false, false, false, false, false, false, false] (by kernel_rfl) rfl rfl trivial (fun hHeld => ?_); refine with_tabW laws_FnResync.tab21 laws_FnResync.bits21 (fun HT_ HW_ => ?_)
       generalize w77.drew = w78 at HO_4 HO_8 HO_883002 HO904 HO908 BK882 BK909 HB hHeld ⊢
       refine pure_ (i := 0) (N := some 60) (v := ?_) (a' := ?_) #[true, false, false, false, false, false, false, false, false, false, false, false, false, false, false, false, false, false, false, false, false, false, false] rfl rfl (any_of HT_.out (by kernel_rfl)) (fun _ _ _ h => h) (Or.inl ⟨by rfl, ?_⟩) ?_ ?_
       rotate_left
       · intro w'; go_simp
         with_reducible rfl
       rotate_left
       · simp only [Act.put, sa, sb, sc, i64_w, i32_w]
         rfl
       refine pure_ (i := 1) (N := some 61) (v := ?_) (a' := ?_) #[true, true, false, false, false, false, false, false, false, false, false, false, false, false, false, false, false, false, false, false, false, false, false] rfl rfl (any_of HT_.out (by kernel_rfl)) (fun _ _ _ h => h) (Or.inl ⟨by rfl, ?_⟩) ?_ ?_
       rotate_left
       · intro w'; go_simp
         with_reducible rfl
       rotate_left
       · simp only [Act.put, sa, sb, sc, i64_w, i32_w]
         rfl
       refine pure_ (i := 2) (N := some 62) (v := ?_) (a' := ?_) #[true, true, true, false, false, false, false, false, false, false, false, false, false, false, false, false, false, false, false, false, false, false, false] rfl rfl (any_of HT_.out (by kernel_rfl)) (fun _ _ _ h => h) (Or.inl ⟨by rfl, ?_⟩) ?_ ?_
       rotate_left
       · intro w'; go_simp
         with_reducible rfl
       rotate_left
       · simp only [Act.put, sa, sb, sc, i64_w, i32_w]
         rfl
       refine pure_ (i := 3) (N := some 63) (v := ?_) (a' := ?_) #[true, true, true, true, false, false, false, false, false, false, false, false, false, false, false, false, false, false, false, false, false, false, false] rfl rfl (any_of HT_.out (by kernel_rfl)) (fun _ _ _ h => h) (Or.inl ⟨by rfl, ?_⟩) ?_ ?_
       rotate_left
       · intro w'; go_simp
         with_reducible rfl
       rotate_left
       · simp only [Act.put, sa, sb, sc, i64_w, i32_w]
         rfl
       refine pure_ (i := 4) (N := some 64) (v := undef) (a' := ?_) #[true, true, true, true, true, false, false, false, false, false, false, false, false, false, false, false, false, false, false, false, false, false, false] rfl rfl (any_of HT_.out (by kernel_rfl)) (fun _ _ _ h => h) (Or.inr ⟨by rfl, rfl⟩) ?_ ?_
       rotate_left
       · simp only [Act.put, sa, sb, sc, i64_w, i32_w]
         rfl
       refine pure_ (i := 5) (N := some 65) (v := undef) (a' := ?_) #[true, true, true, true, true, true, false, false, false, false, false, false, false, false, false, false, false, false, false, false, false, false, false] rfl rfl (any_of HT_.out (by kernel_rfl)) (fun _ _ _ h => h) (Or.inr ⟨by rfl, rfl⟩) ?_ ?_
       rotate_left
       · simp only [Act.put, sa, sb, sc, i64_w, i32_w]
         rfl
       refine pure_ (i := 6) (N := some 66) (v := undef) (a' := ?_) #[true, true, true, true, true, true, true, false, false, false, false, false, false, false, false, false, false, false, false, false, false, false, false] rfl rfl (any_of HT_.out (by kernel_rfl)) (fun _ _ _ h => h) (Or.inr ⟨by rfl, rfl⟩) ?_ ?_
       rotate_left
       · simp only [Act.put, sa, sb, sc, i64_w, i32_w]
         rfl
       refine pure_ (i := 7) (N := some 67) (v := undef) (a' := ?_) #[true, true, true, true, true, true, true, true, false, false, false, false, false, false, false, false, false, false, false, false, false, false, false] rfl rfl (any_of HT_.out (by kernel_rfl)) (fun _ _ _ h => h) (Or.inr ⟨by rfl, rfl⟩) ?_ ?_
       rotate_left
       · simp only [Act.put, sa, sb, sc, i64_w, i32_w]
         rfl
       refine pure_ (i := 8) (N := some 68) (v := undef) (a' := ?_) #[true, true, true, true, true, true, true, true, true, false, false, false, false, false, false, false, false, false, false, false, false, false, false] rfl rfl (any_of HT_.out (by kernel_rfl)) (fun _ _ _ h => h) (Or.inr ⟨by rfl, rfl⟩) ?_ ?_
       rotate_left
       · simp only [Act.put, sa, sb, sc, i64_w, i32_w]
         rfl
       refine pure_ (i := 9) (N := some 69) (v := ?_) (a' := ?_) #[true, true, true, true, true, true, true, true, true, true, false, false, false, false, false, false, false, false, false, false, false, false, false] rfl rfl (any_of HT_.out (by kernel_rfl)) (fun _ _ _ h => h) (Or.inl ⟨by rfl, ?_⟩) ?_ ?_
       rotate_left
       · intro w'; go_simp
         with_reducible rfl
       rotate_left
       · simp only [Act.put, sa, sb, sc, i64_w, i32_w]
         rfl
       refine pure_ (i := 10) (N := some 70) (v := ?_) (a' := ?_) #[true, true, true, true, true, true, true, true, true, true, true, false, false, false, false, false, false, false, false, false, false, false, false] rfl rfl (any_of HT_.out (by kernel_rfl)) (fun _ _ _ h => h) (Or.inl ⟨by rfl, ?_⟩) ?_ ?_
       rotate_left
       · intro w'; go_simp
         with_reducible rfl
       rotate_left
       · simp only [Act.put, sa, sb, sc, i64_w, i32_w]
         rfl
       refine pure_ (i := 11) (N := some 71) (v := undef) (a' := ?_) #[true, true, true, true, true, true, true, true, true, true, true, true, false, false, false, false, false, false, false, false, false, false, false] rfl rfl (any_of HT_.out (by kernel_rfl)) (fun _ _ _ h => h) (Or.inr ⟨by rfl, rfl⟩) ?_ ?_
       rotate_left
       · simp only [Act.put, sa, sb, sc, i64_w, i32_w]
         rfl
       refine pure_ (i := 12) (N := some 72) (v := undef) (a' := ?_) #[true, true, true, true, true, true, true, true, true, true, true, true, true, false, false, false, false, false, false, false, false, false, false] rfl rfl (any_of HT_.out (by kernel_rfl)) (fun _ _ _ h => h) (Or.inr ⟨by rfl, rfl⟩) ?_ ?_
       rotate_left
       · simp only [Act.put, sa, sb, sc, i64_w, i32_w]
         rfl
       refine pure_ (i := 13) (N := some 73) (v := undef) (a' := ?_) #[true, true, true, true, true, true, true, true, true, true, true, true, true, true, false, false, false, false, false, false, false, false, false] rfl rfl (any_of HT_.out (by kernel_rfl)) (fun _ _ _ h => h) (Or.inr ⟨by rfl, rfl⟩) ?_ ?_
       rotate_left
       · simp only [Act.put, sa, sb, sc, i64_w, i32_w]
         rfl
       refine pure_ (i := 14) (N := some 74) (v := undef) (a' := ?_) #[true, true, true, true, true, true, true, true, true, true, true, true, true, true, true, false, false, false, false, false, false, false, false] rfl rfl (any_of HT_.out (by kernel_rfl)) (fun _ _ _ h => h) (Or.inr ⟨by rfl, rfl⟩) ?_ ?_
       rotate_left
       · simp only [Act.put, sa, sb, sc, i64_w, i32_w]
         rfl
       refine pure_ (i := 15) (N := some 75) (v := ?_) (a' := ?_) #[true, true, true, true, true, true, true, true, true, true, true, true, true, true, true, true, false, false, false, false, false, false, false] rfl rfl (any_of HT_.out (by kernel_rfl)) (fun _ _ _ h => h) (Or.inl ⟨by rfl, ?_⟩) ?_ ?_
       rotate_left
       · intro w'; go_simp
         with_reducible rfl
       rotate_left
       · simp only [Act.put, sa, sb, sc, i64_w, i32_w]
         rfl
       refine pure_ (i := 16) (N := some 76) (v := ?_) (a' := ?_) #[true, true, true, true, true, true, true, true, true, true, true, true, true, true, true, true, true, false, false, false, false, false, false] rfl rfl (any_of HT_.out (by kernel_rfl)) (fun _ _ _ h => h) (Or.inl ⟨by rfl, ?_⟩) ?_ ?_
       rotate_left
       · intro w'; go_simp
         with_reducible rfl
       rotate_left
       · simp only [Act.put, sa, sb, sc, i64_w, i32_w]
         rfl
       refine pure_ (i := 17) (N := some 77) (v := undef) (a' := ?_) #[true, true, true, true, true, true, true, true, true, true, true, true, true, true, true, true, true, true, false, false, false, false, false] rfl rfl (any_of HT_.out (by kernel_rfl)) (fun _ _ _ h => h) (Or.inr ⟨by rfl, rfl⟩) ?_ ?_
       rotate_left
       · simp only [Act.put, sa, sb, sc, i64_w, i32_w]
         rfl
       refine pure_ (i := 18) (N := some 78) (v := undef) (a' := ?_) #[true, true, true, true, true, true, true, true, true, true, true, true, true, true, true, true, true, true, true, false, false, false, false] rfl rfl (any_of HT_.out (by kernel_rfl)) (fun _ _ _ h => h) (Or.inr ⟨by rfl, rfl⟩) ?_ ?_
       rotate_left
       · simp only [Act.put, sa, sb, sc, i64_w, i32_w]
         rfl
       refine pure_ (i := 19) (N := some 79) (v := undef) (a' := ?_) #[true, true, true, true, true, true, true, true, true, true, true, true, true, true, true, true, true, true, true, true, false, false, false] rfl rfl (any_of HT_.out (by kernel_rfl)) (fun _ _ _ h => h) (Or.inr ⟨by rfl, rfl⟩) ?_ ?_
       rotate_left
       · simp only [Act.put, sa, sb, sc, i64_w, i32_w]
         rfl
       refine pure_ (i := 20) (N := some 80) (v := undef) (a' := ?_) #[true, true, true, true, true, true, true, true, true, true, true, true, true, true, true, true, true, true, true, true, true, false, false] rfl rfl (any_of HT_.out (by kernel_rfl)) (fun _ _ _ h => h) (Or.inr ⟨by rfl, rfl⟩) ?_ ?_
       rotate_left
       · simp only [Act.put, sa, sb, sc, i64_w, i32_w]
         rfl
       refine pure_ (i := 21) (N := some 81) (v := ?_) (a' := ?_) #[true, true, true, true, true, true, true, true, true, true, true, true, true, true, true, true, true, true, true, true, true, true, false] rfl rfl (any_of HT_.out (by kernel_rfl)) (fun _ _ _ h => h) (Or.inl ⟨by rfl, ?_⟩) ?_ ?_
       rotate_left
       · intro w'; go_simp
         with_reducible rfl
       rotate_left
       · simp only [Act.put, sa, sb, sc, i64_w, i32_w]
         rfl
       refine pure_ (i := 22) (N := some 2) (v := ?_) (a' := ?_) #[true, true, true, true, true, true, true, true, true, true, true, true, true, true, true, true, true, true, true, true, true, true, true] rfl rfl (any_of HT_.out (by kernel_rfl)) (fun _ _ _ h => h) (Or.inl ⟨by rfl, ?_⟩) ?_ ?_
       rotate_left
       · intro w'; go_simp
         with_reducible rfl
       rotate_left
       · simp only [Act.put, sa, sb, sc, i64_w, i32_w]
         rfl
       refine done_ (done_of HT_.out (by kernel_rfl)) ?_
       try go_wp2
       go_ret
       exact ⟨xq4, belA⟩
     rw [if_pos c32] at H; have c32b0 : ((t906.length : Int) == 1) = true := beq_iff_eq.mpr c32; have c32b1 : ((t906.length : Int) != 1) = false := bne_eq_false_iff_eq.mpr c32; clear c32
     by_cases c33 : 0 < (t906.length : Int); rotate_left
     · rw [if_neg c33] at H; exact absurd H (by simp)
     rw [if_pos c33] at H; have c33b0 := decide_eq_true c33; have c33b1 : decide (0 < t906.length) = true := decide_eq_true (by omega); clear c33; replace H := Option.bind_eq_some_iff.mp H; obtain ⟨t911, A340, H⟩ := H; (try dsimp only at H); have A34 := ak A340; clear A340
     by_cases c35 : t911 = true; rotate_left
     · replace c35 := Bool.eq_false_iff.mpr c35; subst c35; have H1 : (some false) = some r := by rw [if_neg (show ¬ (false = true) by decide)] at H; exact H
       clear H; have H := H1; clear H1; obtain rfl := Option.some.inj H; obtain ⟨Ao59, co59, eo59⟩ := Kd.R_slice HO_8.out; subst eo59; obtain ⟨Ao60, co60, eo60⟩ := Kd.R_slice HO_4.out; subst eo60; try go_wp2_with (first | ((with_reducible refine gate_callee (f := 39) rfl ?_); refine goB 57 Try.func39 #[.agg #[.slice none 0 0, .int .i64 0], .slice Ao60 x4_2.length co60] rfl ?_; (refine (impl_Feed.calls k2 _ _ ([] : List Int) 0 _ _ x4_2 t902 t905 t906 _ ?side1 ?side2 ?side3 ?side4 A31.out).mono ?_); (case side1 => exact Kd.C_nil _ _); (case side2 => exact Nat.le_refl _); (case side3 => exact cA ((Kd.R_reads' HO_4.out).2.2)); (case side4 => exact (Kd.R_reads' HO_4.out).2.1); rintro e w61 ⟨v903, v907, rfl, ho0, ho1, hb⟩; refine ⟨_, rfl, ?_⟩; have HO904 := rL (Kd.R_new' (Kd.R_new' (Kd.R_new' ho0 (Kd.R_lt (rF HO_4))) (Kd.R_lt (rF HO_8))) (Kd.R_lt (rF HO_883002))); have HO908 := sL (Kd.S_newB (Kd.S_new' (Kd.S_new' (Kd.S_new' ho1 (Kd.R_lt (rF HO_4))) (Kd.R_lt (rF HO_8))) (Kd.R_lt (rF HO_883002))) (g := gb882) (o := .cells #[.int .i64 t877, .int .i64 t878, .slice Ao10 t879.length co10] 59 (0, 0)) blkA); replace HO_4 := ak (Kd.R_elder' (rF HO_4) (Kd.R_base ho0) hb); replace HO_8 := ak (Kd.R_elder' (rF HO_8) (Kd.R_base ho0) hb); replace HO_883002 := ak (Kd.R_elder' (rF HO_883002) (Kd.R_base ho0) hb); replace BK882 := bB BK882 hb; replace HB := bS hb; (try clear hb ho0 ho1)) | ((with_reducible refine gate_dst (N := 10) rfl ?_); (try (refine gate_guard (by rfl) ?_; dsimp only)); refine boxA 10 #[.slice none 0 0, .int .i64 0] 64 ?_; intro gb909 hg w62 hbox hb; have BK909 := ak hbox; have GW909 := leA (w := w) hg; have GE909 := leA (w := w) hg; have NB882_909 := neL hg BK882; have NB909_882 := neG hg BK882; replace HO_4 := ak (Kd.R_below (rF HO_4) hb); replace HO_8 := ak (Kd.R_below (rF HO_8) hb); replace HO_883002 := ak (Kd.R_below (rF HO_883002) hb); replace HO904 := ak (Kd.R_below (rF HO904) hb); replace HO908 := sB HO908 hb; replace BK882 := bB BK882 hb; replace HB := bS hb; clear hb hbox hg; obtain ⟨Ao63, co63, eo63⟩ := Kd.R_slice HO904.out; subst eo63; have hnb64 := NB909_882.out; have hnc64 := NB882_909.out; obtain ⟨hcz65_0, hcz65_1, hfz65_0, hfz65_1⟩ := cel2 BK909))
       generalize hw_ : ((w62.setCell ⟨gb909, 0, none⟩ (.slice Ao63 t902.length co63)).setCell ⟨gb909, 1, none⟩ (.int .i64 t905)) = w66; have n0_ : Aside0 (Kd.R (Kd.int .u8) 5 w66 w.heap.size (fun k_ => some k_ ≠ (.slice Ao59 t895.length co59 : Value).ownBlock ∧ some k_ ≠ (.slice Ao10 t879.length co10 : Value).ownBlock ∧ some k_ ≠ (.slice Ao63 t902.length co63 : Value).ownBlock) (.slice Ao60 x4_2.length co60) x4_2) := ⟨by rw [← hw_]; exact (Kd.R_mono (Kd.R_far (p := ⟨gb909, 1, none⟩) (Kd.R_far (p := ⟨gb909, 0, none⟩) (Kd.R_types HO_4.out BK909.out (by decide)) (fun _ hk => hk.2) (.slice Ao63 t902.length co63)) (fun _ hk => hk.2) (.int .i64 t905)) (fun _ hk => ⟨hk.1.1.1, ⟨hk.1.1.2, hk.1.2⟩⟩))⟩; have n1_ : Aside0 (Kd.R (Kd.int .u8) 5 w66 w.heap.size (fun k_ => some k_ ≠ (.slice Ao60 x4_2.length co60 : Value).ownBlock ∧ some k_ ≠ (.slice Ao10 t879.length co10 : Value).ownBlock ∧ some k_ ≠ (.slice Ao63 t902.length co63 : Value).ownBlock) (.slice Ao59 t895.length co59) t895) := ⟨by rw [← hw_]; exact (Kd.R_mono (Kd.R_far (p := ⟨gb909, 1, none⟩) (Kd.R_far (p := ⟨gb909, 0, none⟩) (Kd.R_types HO_8.out BK909.out (by decide)) (fun _ hk => hk.2) (.slice Ao63 t902.length co63)) (fun _ hk => hk.2) (.int .i64 t905)) (fun _ hk => ⟨hk.1.1.1, ⟨hk.1.1.2, hk.1.2⟩⟩))⟩; have n2_ : Aside0 (Kd.R (Kd.int .u8) 5 w66 w.heap.size (fun k_ => some k_ ≠ (.slice Ao60 x4_2.length co60 : Value).ownBlock ∧ some k_ ≠ (.slice Ao59 t895.length co59 : Value).ownBlock ∧ some k_ ≠ (.slice Ao63 t902.length co63 : Value).ownBlock) (.slice Ao10 t879.length co10) t879) := ⟨by rw [← hw_]; exact (Kd.R_mono (Kd.R_far (p := ⟨gb909, 1, none⟩) (Kd.R_far (p := ⟨gb909, 0, none⟩) (Kd.R_types HO_883002.out BK909.out (by decide)) (fun _ hk => hk.2) (.slice Ao63 t902.length co63)) (fun _ hk => hk.2) (.int .i64 t905)) (fun _ hk => ⟨hk.1.1.1, ⟨hk.1.1.2, hk.1.2⟩⟩))⟩; have n3_ : Aside0 (Kd.R (Kd.int .u8) 5 w66 w.heap.size (fun k_ => some k_ ≠ (.slice Ao60 x4_2.length co60 : Value).ownBlock ∧ some k_ ≠ (.slice Ao59 t895.length co59 : Value).ownBlock ∧ some k_ ≠ (.slice Ao10 t879.length co10 : Value).ownBlock) (.slice Ao63 t902.length co63) t902) := ⟨by rw [← hw_]; exact (Kd.R_mono (Kd.R_far (p := ⟨gb909, 1, none⟩) (Kd.R_far (p := ⟨gb909, 0, none⟩) (Kd.R_types HO904.out BK909.out (by decide)) (fun _ hk => hk.2) (.slice Ao63 t902.length co63)) (fun _ hk => hk.2) (.int .i64 t905)) (fun _ hk => ⟨hk.1.1.1.2, ⟨hk.1.1.2, hk.1.2⟩⟩))⟩; have n4_ : Aside0 (Kd.S k59 59 w66 w.heap.size (fun k_ => some k_ ≠ (.slice Ao60 x4_2.length co60 : Value).ownBlock ∧ some k_ ≠ (.slice Ao59 t895.length co59 : Value).ownBlock ∧ some k_ ≠ (.slice Ao10 t879.length co10 : Value).ownBlock ∧ some k_ ≠ (.slice Ao63 t902.length co63 : Value).ownBlock ∧ k_ ≠ gb882) v907 t906) := ⟨by rw [← hw_]; exact (Kd.S_mono (Kd.S_far (p := ⟨gb909, 1, none⟩) (Kd.S_far (p := ⟨gb909, 0, none⟩) (Kd.S_types HO908.out BK909.out (by decide)) (fun _ hk => hk.2) (.slice Ao63 t902.length co63)) (fun _ hk => hk.2) (.int .i64 t905)) (fun _ hk => ⟨hk.1.1.1.1.2, ⟨hk.1.1.1.2, ⟨hk.1.1.2, ⟨hk.1.1.1.1.1, hk.1.2⟩⟩⟩⟩))⟩; have n5_ : Aside0 (w66.heap[gb882]? = some (.cells #[.int .i64 t877, .int .i64 t878, .slice Ao10 t879.length co10] 59 (0, 0))) := ⟨xq43⟩; have n6_ : Aside0 (w66.heap[gb909]? = some (.cells #[.slice Ao63 t902.length co63, .int .i64 t905] 64 (0, 0))) := ⟨by rw [← hw_]; refine blk_put (cs := #[.slice Ao63 t902.length co63, .int .i64 0]) ?_ 1 _ rfl; refine blk_put (cs := #[.slice none 0 0, .int .i64 0]) ?_ 0 _ rfl; exact BK909.out⟩; have n7_ : Aside0 (Below w.heap.size w w66) := ⟨by rw [← hw_]; exact belA⟩; (try clear HO_4); (try clear HO_8); (try clear HO_883002); (try clear HO904); (try clear HO908); (try clear BK882); (try clear BK909); (try clear HB); clear hw_; have HO_4 := n0_; have HO_8 := n1_; have HO_883002 := n2_; have HO904 := n3_; have HO908 := n4_; have BK882 := n5_; have BK909 := n6_; have HB := n7_; clear n0_ n1_ n2_ n3_ n4_ n5_ n6_ n7_; replace HO_4 := ak (Kd.R_drew HO_4.out); replace HO_8 := ak (Kd.R_drew HO_8.out); replace HO_883002 := ak (Kd.R_drew HO_883002.out); replace HO904 := ak (Kd.R_drew HO904.out); replace HO908 := ak (Kd.S_drew HO908.out); replace BK882 := ak (blk_drew BK882.out); replace BK909 := ak (blk_drew BK909.out); replace HB := ak (below_drew1 HB.out); obtain ⟨Ao68, co68, eo68⟩ := Kd.S_slice HO908.out; (first | subst eo68 | (injection eo68 with f1_ f2_ f3_; have f4_ := f1_.symm; have f5_ := f3_.symm; clear f1_ f2_ f3_; subst f4_; subst f5_))
       have p910 : 0 ≤ (0 : Int) := (by omega); have q910 : 0 < (t906.length : Int) := odA; obtain ⟨ad910, A910_2, c910_2, e910, hx910_0, hx910_1, hx910_2, hl910_2, hi910_2⟩ := at_T59 (Kd.S_reads' HO908.out).2.2 0 p910 q910
       cases e910
       obtain ⟨ce910, hce910, hMe910, hcc910⟩ := Kd.S_get HO908.out z59 0 p910 xq59; obtain ⟨ve910_2, rfl, ge910_2⟩ := k59_openM hMe910; have hv910_2 := hcc910 2 _ rfl; rw [add_field _ _ 2 (by omega)] at hv910_2; replace hv910_2 := Option.some.inj (hv910_2.symm.trans hx910_2); rw [hv910_2] at ge910_2; have HL910_2 := ak (show Kd.R (Kd.int .u8) 5 _ _ _ _ ((rd_T59 t906 0).f2) from ge910_2); clear hv910_2 ge910_2; clear hcc910 hce910; have qi910 : (0 < t906.length) = True := eq_true (by omega); (try rw [show ((0 : Int)).toNat = 0 from rfl] at hx910_0)
       (try rw [show 0 * 3 = 0 from rfl] at hx910_0)
       (try rw [Addr.add_zero'] at hx910_0)
       (try rw [show ((0 : Int)).toNat = 0 from rfl] at hx910_1)
       (try rw [show 0 * 3 = 0 from rfl] at hx910_1)
       (try rw [Addr.add_zero'] at hx910_1)
       (try rw [show ((0 : Int)).toNat = 0 from rfl] at hx910_2)
       (try rw [show 0 * 3 = 0 from rfl] at hx910_2)
       (try rw [Addr.add_zero'] at hx910_2)
       have HR910_2 := ak hi910_2; have HC910_2 := ak hl910_2; clear hi910_2 hl910_2; replace p910 := eq_true p910; replace q910 := eq_true q910; refine start_ (n := 23) (S := fun w' => w'.cell? ⟨gb882, 0, none⟩ = some (.int .i64 t877) ∧ w'.cell? ⟨gb882, 1, none⟩ = some (.int .i64 t878) ∧ w'.cell? ⟨gb882, 2, none⟩ = some (.slice Ao10 t879.length co10) ∧ w'.cell? ad910 = some (.int .i64 ((rd_T59 t906 0).f0)) ∧ w'.cell? ⟨ad910.block, ad910.off + 1, none⟩ = some (.int .i64 ((rd_T59 t906 0).f1)) ∧ w'.cell? ⟨ad910.block, ad910.off + 2, none⟩ = some (.slice A910_2 ((rd_T59 t906 0).f2).length c910_2)) (ds := []) #[false, false, false, false, false, false, false, false, false, false, false, false, false, false, false, false, false, false, false, false, false, false, false] (by kernel_rfl) rfl rfl ⟨(blk_cell BK882.out 0).trans rfl, (blk_cell BK882.out 1).trans rfl, (blk_cell BK882.out 2).trans rfl, hx910_0, hx910_1, hx910_2⟩ (fun hHeld => ?_); refine with_tabW laws_FnResync.tab21 laws_FnResync.bits21 (fun HT_ HW_ => ?_)
       generalize w66.drew = w67 at HO_4 HO_8 HO_883002 HO904 HO908 BK882 BK909 HB HL910_2 HR910_2 hx910_0 hx910_1 hx910_2 hHeld ⊢
       refine pure_ (i := 0) (N := some 60) (v := ?_) (a' := ?_) #[true, false, false, false, false, false, false, false, false, false, false, false, false, false, false, false, false, false, false, false, false, false, false] rfl rfl (any_of HT_.out (by kernel_rfl)) (fun _ _ _ h => h) (Or.inl ⟨by rfl, ?_⟩) ?_ ?_
       rotate_left
       · intro w'; go_simp
         with_reducible rfl
       rotate_left
       · simp only [Act.put, sa, sb, sc, i64_w, i32_w]
         rfl
       refine pure_ (i := 1) (N := some 61) (v := ?_) (a' := ?_) #[true, true, false, false, false, false, false, false, false, false, false, false, false, false, false, false, false, false, false, false, false, false, false] rfl rfl (any_of HT_.out (by kernel_rfl)) (fun _ _ _ h => h) (Or.inl ⟨by rfl, ?_⟩) ?_ ?_
       rotate_left
       · intro w'; go_simp
         with_reducible rfl
       rotate_left
       · simp only [Act.put, sa, sb, sc, i64_w, i32_w]
         rfl
       refine pure_ (i := 2) (N := some 62) (v := ?_) (a' := ?_) #[true, true, true, false, false, false, false, false, false, false, false, false, false, false, false, false, false, false, false, false, false, false, false] rfl rfl (any_of HT_.out (by kernel_rfl)) (fun _ _ _ h => h) (Or.inl ⟨by rfl, ?_⟩) ?_ ?_
       rotate_left
       · intro w'; go_simp
         with_reducible rfl
       rotate_left
       · simp only [Act.put, sa, sb, sc, i64_w, i32_w]
         rfl
       refine pure_ (i := 3) (N := some 63) (v := ?_) (a' := ?_) #[true, true, true, true, false, false, false, false, false, false, false, false, false, false, false, false, false, false, false, false, false, false, false] rfl rfl (any_of HT_.out (by kernel_rfl)) (fun _ _ _ h => h) (Or.inl ⟨by rfl, ?_⟩) ?_ ?_
       rotate_left
       · intro w'; go_simp
         with_reducible rfl
       rotate_left
       · simp only [Act.put, sa, sb, sc, i64_w, i32_w]
         rfl
       refine pure_ (i := 4) (N := some 64) (v := ?_) (a' := ?_) #[true, true, true, true, true, false, false, false, false, false, false, false, false, false, false, false, false, false, false, false, false, false, false] rfl rfl (any_of HT_.out (by kernel_rfl)) (fun _ _ _ h => h) (Or.inl ⟨by rfl, ?_⟩) ?_ ?_
       rotate_left
       · intro w'; go_simp
         with_reducible rfl
       rotate_left
       · simp only [Act.put, sa, sb, sc, i64_w, i32_w]
         rfl
       refine pure_ (i := 5) (N := some 65) (v := ?_) (a' := ?_) #[true, true, true, true, true, true, false, false, false, false, false, false, false, false, false, false, false, false, false, false, false, false, false] rfl rfl (any_of HT_.out (by kernel_rfl)) (fun _ _ _ h => h) (Or.inl ⟨by rfl, ?_⟩) ?_ ?_
       rotate_left
       · intro w'; go_simp
         with_reducible rfl
       rotate_left
       · simp only [Act.put, sa, sb, sc, i64_w, i32_w]
         rfl
       refine take_ (i := 6) (N := some 66) (v := ?_) (a' := ?_) #[true, true, true, true, true, true, true, false, false, false, false, false, false, false, false, false, false, false, false, false, false, false, false] rfl rfl (take_ofW HT_.out HW_.out (by kernel_rfl)) (fun _ _ _ h => h) (Or.inl ⟨by rfl, ?_⟩) hHeld ?_ ?_
       rotate_left
       · rintro w' ⟨s0, s1, s2, s3, s4, s5⟩
         go_simp
         with_reducible rfl
       rotate_left
       · simp only [Act.put, sa, sb, sc, i64_w, i32_w]
         rfl
       refine take_ (i := 7) (N := some 67) (v := ?_) (a' := ?_) #[true, true, true, true, true, true, true, true, false, false, false, false, false, false, false, false, false, false, false, false, false, false, false] rfl rfl (take_ofW HT_.out HW_.out (by kernel_rfl)) (fun _ _ _ h => h) (Or.inl ⟨by rfl, ?_⟩) hHeld ?_ ?_
       rotate_left
       · rintro w' ⟨s0, s1, s2, s3, s4, s5⟩
         go_simp
         with_reducible rfl
       rotate_left
       · simp only [Act.put, sa, sb, sc, i64_w, i32_w]
         rfl
       refine one_ (i := 8) (N := some 68) #[true, true, true, true, true, true, true, true, true, false, false, false, false, false, false, false, false, false, false, false, false, false, false] rfl rfl (one_of HT_.out (by kernel_rfl)) (by decide) (fun K hK => ?_)
       refine goes_ Try.func40 (by kernel_rfl) rfl #[.agg #[.int .i64 ((rd_T59 t906 0).f0), .int .i64 ((rd_T59 t906 0).f1), .slice A910_2 ((rd_T59 t906 0).f2).length c910_2], .agg #[.int .i64 t877, .int .i64 t878, .slice Ao10 t879.length co10]] (by rfl) rfl rfl xq24 ?_
       with_reducible refine (laws_sameFrame.calls k2 ((rd_T59 t906 0).f0) ((rd_T59 t906 0).f1) _ _ ((rd_T59 t906 0).f2) t877 t878 _ _ t879 false _ ?side1 ?side2 ?side3 ?side4 A34.out).mono ?_
       (case side1 => exact xq60)
       (case side2 => exact HC910_2.out)
       (case side3 => exact xq44)
       (case side4 => exact (Kd.R_reads' HO_883002.out).2.1)
       rintro e w69 ⟨rfl, hb⟩
       have HS3_ := (hb.cell (World.block_lt_of_cell? _ _ (hHeld.2.2.2.1))).trans (hHeld.2.2.2.1); have HS4_ := (hb.cell (World.block_lt_of_cell? _ _ (hHeld.2.2.2.2.1))).trans (hHeld.2.2.2.2.1); have HS5_ := (hb.cell (World.block_lt_of_cell? _ _ (hHeld.2.2.2.2.2))).trans (hHeld.2.2.2.2.2); refine ⟨_, rfl, ?_⟩
       replace HO_4 := ak (Kd.R_below (rF HO_4) hb); replace HO_8 := ak (Kd.R_below (rF HO_8) hb); replace HO_883002 := ak (Kd.R_below (rF HO_883002) hb); replace HO904 := ak (Kd.R_below (rF HO904) hb); replace HO908 := sB HO908 hb; replace HL910_2 := rB HL910_2 hb; replace BK882 := bB BK882 hb; replace BK909 := bB BK909 hb; replace HR910_2 := ak (Kd.C_below xq32 hb); replace HB := bS hb; (try clear hb); refine hK.out _ _ ⟨(blk_cell BK882.out 0).trans rfl, (blk_cell BK882.out 1).trans rfl, (blk_cell BK882.out 2).trans rfl, HS3_, HS4_, HS5_⟩ (fun hHeld => ?_)
       clear hK K; refine norm_ (a' := ?_) ?_ ?_
       rotate_left
       · show Act.put _ (some 68) _ = _
         simp only [Act.put, sa, sb, sc, i64_w, i32_w]
         rfl
       refine pure_ (i := 9) (N := some 69) (v := ?_) (a' := ?_) #[true, true, true, true, true, true, true, true, true, true, false, false, false, false, false, false, false, false, false, false, false, false, false] rfl rfl (any_of HT_.out (by kernel_rfl)) (fun _ _ _ h => h) (Or.inl ⟨by rfl, ?_⟩) ?_ ?_
       rotate_left
       · intro w'; go_simp
         with_reducible rfl
       rotate_left
       · simp only [Act.put, sa, sb, sc, i64_w, i32_w]
         rfl
       refine pure_ (i := 10) (N := some 70) (v := ?_) (a' := ?_) #[true, true, true, true, true, true, true, true, true, true, true, false, false, false, false, false, false, false, false, false, false, false, false] rfl rfl (any_of HT_.out (by kernel_rfl)) (fun _ _ _ h => h) (Or.inl ⟨by rfl, ?_⟩) ?_ ?_
       rotate_left
       · intro w'; go_simp
         with_reducible rfl
       rotate_left
       · simp only [Act.put, sa, sb, sc, i64_w, i32_w]
         rfl
       refine pure_ (i := 11) (N := some 71) (v := undef) (a' := ?_) #[true, true, true, true, true, true, true, true, true, true, true, true, false, false, false, false, false, false, false, false, false, false, false] rfl rfl (any_of HT_.out (by kernel_rfl)) (fun _ _ _ h => h) (Or.inr ⟨by rfl, rfl⟩) ?_ ?_
       rotate_left
       · simp only [Act.put, sa, sb, sc, i64_w, i32_w]
         rfl
       refine pure_ (i := 12) (N := some 72) (v := undef) (a' := ?_) #[true, true, true, true, true, true, true, true, true, true, true, true, true, false, false, false, false, false, false, false, false, false, false] rfl rfl (any_of HT_.out (by kernel_rfl)) (fun _ _ _ h => h) (Or.inr ⟨by rfl, rfl⟩) ?_ ?_
       rotate_left
       · simp only [Act.put, sa, sb, sc, i64_w, i32_w]
         rfl
       refine pure_ (i := 13) (N := some 73) (v := undef) (a' := ?_) #[true, true, true, true, true, true, true, true, true, true, true, true, true, true, false, false, false, false, false, false, false, false, false] rfl rfl (any_of HT_.out (by kernel_rfl)) (fun _ _ _ h => h) (Or.inr ⟨by rfl, rfl⟩) ?_ ?_
       rotate_left
       · simp only [Act.put, sa, sb, sc, i64_w, i32_w]
         rfl
       refine pure_ (i := 14) (N := some 74) (v := undef) (a' := ?_) #[true, true, true, true, true, true, true, true, true, true, true, true, true, true, true, false, false, false, false, false, false, false, false] rfl rfl (any_of HT_.out (by kernel_rfl)) (fun _ _ _ h => h) (Or.inr ⟨by rfl, rfl⟩) ?_ ?_
       rotate_left
       · simp only [Act.put, sa, sb, sc, i64_w, i32_w]
         rfl
       refine pure_ (i := 15) (N := some 75) (v := ?_) (a' := ?_) #[true, true, true, true, true, true, true, true, true, true, true, true, true, true, true, true, false, false, false, false, false, false, false] rfl rfl (any_of HT_.out (by kernel_rfl)) (fun _ _ _ h => h) (Or.inl ⟨by rfl, ?_⟩) ?_ ?_
       rotate_left
       · intro w'; go_simp
         with_reducible rfl
       rotate_left
       · simp only [Act.put, sa, sb, sc, i64_w, i32_w]
         rfl
       refine pure_ (i := 16) (N := some 76) (v := ?_) (a' := ?_) #[true, true, true, true, true, true, true, true, true, true, true, true, true, true, true, true, true, false, false, false, false, false, false] rfl rfl (any_of HT_.out (by kernel_rfl)) (fun _ _ _ h => h) (Or.inl ⟨by rfl, ?_⟩) ?_ ?_
       rotate_left
       · intro w'; go_simp
         with_reducible rfl
       rotate_left
       · simp only [Act.put, sa, sb, sc, i64_w, i32_w]
         rfl
       refine pure_ (i := 17) (N := some 77) (v := undef) (a' := ?_) #[true, true, true, true, true, true, true, true, true, true, true, true, true, true, true, true, true, true, false, false, false, false, false] rfl rfl (any_of HT_.out (by kernel_rfl)) (fun _ _ _ h => h) (Or.inr ⟨by rfl, rfl⟩) ?_ ?_
       rotate_left
       · simp only [Act.put, sa, sb, sc, i64_w, i32_w]
         rfl
       refine pure_ (i := 18) (N := some 78) (v := undef) (a' := ?_) #[true, true, true, true, true, true, true, true, true, true, true, true, true, true, true, true, true, true, true, false, false, false, false] rfl rfl (any_of HT_.out (by kernel_rfl)) (fun _ _ _ h => h) (Or.inr ⟨by rfl, rfl⟩) ?_ ?_
       rotate_left
       · simp only [Act.put, sa, sb, sc, i64_w, i32_w]
         rfl
       refine pure_ (i := 19) (N := some 79) (v := undef) (a' := ?_) #[true, true, true, true, true, true, true, true, true, true, true, true, true, true, true, true, true, true, true, true, false, false, false] rfl rfl (any_of HT_.out (by kernel_rfl)) (fun _ _ _ h => h) (Or.inr ⟨by rfl, rfl⟩) ?_ ?_
       rotate_left
       · simp only [Act.put, sa, sb, sc, i64_w, i32_w]
         rfl
       refine pure_ (i := 20) (N := some 80) (v := undef) (a' := ?_) #[true, true, true, true, true, true, true, true, true, true, true, true, true, true, true, true, true, true, true, true, true, false, false] rfl rfl (any_of HT_.out (by kernel_rfl)) (fun _ _ _ h => h) (Or.inr ⟨by rfl, rfl⟩) ?_ ?_
       rotate_left
       · simp only [Act.put, sa, sb, sc, i64_w, i32_w]
         rfl
       refine pure_ (i := 21) (N := some 81) (v := ?_) (a' := ?_) #[true, true, true, true, true, true, true, true, true, true, true, true, true, true, true, true, true, true, true, true, true, true, false] rfl rfl (any_of HT_.out (by kernel_rfl)) (fun _ _ _ h => h) (Or.inl ⟨by rfl, ?_⟩) ?_ ?_
       rotate_left
       · intro w'; go_simp
         with_reducible rfl
       rotate_left
       · simp only [Act.put, sa, sb, sc, i64_w, i32_w]
         rfl
       refine pure_ (i := 22) (N := some 2) (v := ?_) (a' := ?_) #[true, true, true, true, true, true, true, true, true, true, true, true, true, true, true, true, true, true, true, true, true, true, true] rfl rfl (any_of HT_.out (by kernel_rfl)) (fun _ _ _ h => h) (Or.inl ⟨by rfl, ?_⟩) ?_ ?_
       rotate_left
       · intro w'; go_simp
         with_reducible rfl
       rotate_left
       · simp only [Act.put, sa, sb, sc, i64_w, i32_w]
         rfl
       refine done_ (done_of HT_.out (by kernel_rfl)) ?_
       try go_wp2
       go_ret
       exact ⟨xq4, belA⟩
     subst c35; have H1 : (if t905 = (x4_1.length : Int) then (some ((t902.length : Int) == 0)) else (some false)) = some r := by rw [if_pos rfl] at H; exact H
     clear H; have H := H1; clear H1
     by_cases c36 : t905 = (x4_1.length : Int); rotate_left
     · rw [if_neg c36] at H; have c36b0 : (t905 == (x4_1.length : Int)) = false := beq_eq_false_iff_ne.mpr c36; have c36b1 : (t905 != (x4_1.length : Int)) = true := bne_iff_ne.mpr c36; obtain rfl := Option.some.inj H; obtain ⟨Ao48, co48, eo48⟩ := Kd.R_slice HO_8.out; subst eo48; obtain ⟨Ao49, co49, eo49⟩ := Kd.R_slice HO_4.out; subst eo49; try go_wp2_with (first | ((with_reducible refine gate_callee (f := 39) rfl ?_); refine goB 57 Try.func39 #[.agg #[.slice none 0 0, .int .i64 0], .slice Ao49 x4_2.length co49] rfl ?_; (refine (impl_Feed.calls k2 _ _ ([] : List Int) 0 _ _ x4_2 t902 t905 t906 _ ?side1 ?side2 ?side3 ?side4 A31.out).mono ?_); (case side1 => exact Kd.C_nil _ _); (case side2 => exact Nat.le_refl _); (case side3 => exact cA ((Kd.R_reads' HO_4.out).2.2)); (case side4 => exact (Kd.R_reads' HO_4.out).2.1); rintro e w50 ⟨v903, v907, rfl, ho0, ho1, hb⟩; refine ⟨_, rfl, ?_⟩; have HO904 := rL (Kd.R_new' (Kd.R_new' (Kd.R_new' ho0 (Kd.R_lt (rF HO_4))) (Kd.R_lt (rF HO_8))) (Kd.R_lt (rF HO_883002))); have HO908 := sL (Kd.S_newB (Kd.S_new' (Kd.S_new' (Kd.S_new' ho1 (Kd.R_lt (rF HO_4))) (Kd.R_lt (rF HO_8))) (Kd.R_lt (rF HO_883002))) (g := gb882) (o := .cells #[.int .i64 t877, .int .i64 t878, .slice Ao10 t879.length co10] 59 (0, 0)) blkA); replace HO_4 := ak (Kd.R_elder' (rF HO_4) (Kd.R_base ho0) hb); replace HO_8 := ak (Kd.R_elder' (rF HO_8) (Kd.R_base ho0) hb); replace HO_883002 := ak (Kd.R_elder' (rF HO_883002) (Kd.R_base ho0) hb); replace BK882 := bB BK882 hb; replace HB := bS hb; (try clear hb ho0 ho1)) | ((with_reducible refine gate_dst (N := 10) rfl ?_); (try (refine gate_guard (by rfl) ?_; dsimp only)); refine boxA 10 #[.slice none 0 0, .int .i64 0] 64 ?_; intro gb909 hg w51 hbox hb; have BK909 := ak hbox; have GW909 := leA (w := w) hg; have GE909 := leA (w := w) hg; have NB882_909 := neL hg BK882; have NB909_882 := neG hg BK882; replace HO_4 := ak (Kd.R_below (rF HO_4) hb); replace HO_8 := ak (Kd.R_below (rF HO_8) hb); replace HO_883002 := ak (Kd.R_below (rF HO_883002) hb); replace HO904 := ak (Kd.R_below (rF HO904) hb); replace HO908 := sB HO908 hb; replace BK882 := bB BK882 hb; replace HB := bS hb; clear hb hbox hg; obtain ⟨Ao52, co52, eo52⟩ := Kd.R_slice HO904.out; subst eo52; have hnb53 := NB909_882.out; have hnc53 := NB882_909.out; obtain ⟨hcz54_0, hcz54_1, hfz54_0, hfz54_1⟩ := cel2 BK909))
       generalize hw_ : ((w51.setCell ⟨gb909, 0, none⟩ (.slice Ao52 t902.length co52)).setCell ⟨gb909, 1, none⟩ (.int .i64 t905)) = w55; have n0_ : Aside0 (Kd.R (Kd.int .u8) 5 w55 w.heap.size (fun k_ => some k_ ≠ (.slice Ao48 t895.length co48 : Value).ownBlock ∧ some k_ ≠ (.slice Ao10 t879.length co10 : Value).ownBlock ∧ some k_ ≠ (.slice Ao52 t902.length co52 : Value).ownBlock) (.slice Ao49 x4_2.length co49) x4_2) := ⟨by rw [← hw_]; exact (Kd.R_mono (Kd.R_far (p := ⟨gb909, 1, none⟩) (Kd.R_far (p := ⟨gb909, 0, none⟩) (Kd.R_types HO_4.out BK909.out (by decide)) (fun _ hk => hk.2) (.slice Ao52 t902.length co52)) (fun _ hk => hk.2) (.int .i64 t905)) (fun _ hk => ⟨hk.1.1.1, ⟨hk.1.1.2, hk.1.2⟩⟩))⟩; have n1_ : Aside0 (Kd.R (Kd.int .u8) 5 w55 w.heap.size (fun k_ => some k_ ≠ (.slice Ao49 x4_2.length co49 : Value).ownBlock ∧ some k_ ≠ (.slice Ao10 t879.length co10 : Value).ownBlock ∧ some k_ ≠ (.slice Ao52 t902.length co52 : Value).ownBlock) (.slice Ao48 t895.length co48) t895) := ⟨by rw [← hw_]; exact (Kd.R_mono (Kd.R_far (p := ⟨gb909, 1, none⟩) (Kd.R_far (p := ⟨gb909, 0, none⟩) (Kd.R_types HO_8.out BK909.out (by decide)) (fun _ hk => hk.2) (.slice Ao52 t902.length co52)) (fun _ hk => hk.2) (.int .i64 t905)) (fun _ hk => ⟨hk.1.1.1, ⟨hk.1.1.2, hk.1.2⟩⟩))⟩; have n2_ : Aside0 (Kd.R (Kd.int .u8) 5 w55 w.heap.size (fun k_ => some k_ ≠ (.slice Ao49 x4_2.length co49 : Value).ownBlock ∧ some k_ ≠ (.slice Ao48 t895.length co48 : Value).ownBlock ∧ some k_ ≠ (.slice Ao52 t902.length co52 : Value).ownBlock) (.slice Ao10 t879.length co10) t879) := ⟨by rw [← hw_]; exact (Kd.R_mono (Kd.R_far (p := ⟨gb909, 1, none⟩) (Kd.R_far (p := ⟨gb909, 0, none⟩) (Kd.R_types HO_883002.out BK909.out (by decide)) (fun _ hk => hk.2) (.slice Ao52 t902.length co52)) (fun _ hk => hk.2) (.int .i64 t905)) (fun _ hk => ⟨hk.1.1.1, ⟨hk.1.1.2, hk.1.2⟩⟩))⟩; have n3_ : Aside0 (Kd.R (Kd.int .u8) 5 w55 w.heap.size (fun k_ => some k_ ≠ (.slice Ao49 x4_2.length co49 : Value).ownBlock ∧ some k_ ≠ (.slice Ao48 t895.length co48 : Value).ownBlock ∧ some k_ ≠ (.slice Ao10 t879.length co10 : Value).ownBlock) (.slice Ao52 t902.length co52) t902) := ⟨by rw [← hw_]; exact (Kd.R_mono (Kd.R_far (p := ⟨gb909, 1, none⟩) (Kd.R_far (p := ⟨gb909, 0, none⟩) (Kd.R_types HO904.out BK909.out (by decide)) (fun _ hk => hk.2) (.slice Ao52 t902.length co52)) (fun _ hk => hk.2) (.int .i64 t905)) (fun _ hk => ⟨hk.1.1.1.2, ⟨hk.1.1.2, hk.1.2⟩⟩))⟩; have n4_ : Aside0 (Kd.S k59 59 w55 w.heap.size (fun k_ => some k_ ≠ (.slice Ao49 x4_2.length co49 : Value).ownBlock ∧ some k_ ≠ (.slice Ao48 t895.length co48 : Value).ownBlock ∧ some k_ ≠ (.slice Ao10 t879.length co10 : Value).ownBlock ∧ some k_ ≠ (.slice Ao52 t902.length co52 : Value).ownBlock ∧ k_ ≠ gb882) v907 t906) := ⟨by rw [← hw_]; exact (Kd.S_mono (Kd.S_far (p := ⟨gb909, 1, none⟩) (Kd.S_far (p := ⟨gb909, 0, none⟩) (Kd.S_types HO908.out BK909.out (by decide)) (fun _ hk => hk.2) (.slice Ao52 t902.length co52)) (fun _ hk => hk.2) (.int .i64 t905)) (fun _ hk => ⟨hk.1.1.1.1.2, ⟨hk.1.1.1.2, ⟨hk.1.1.2, ⟨hk.1.1.1.1.1, hk.1.2⟩⟩⟩⟩))⟩; have n5_ : Aside0 (w55.heap[gb882]? = some (.cells #[.int .i64 t877, .int .i64 t878, .slice Ao10 t879.length co10] 59 (0, 0))) := ⟨xq43⟩; have n6_ : Aside0 (w55.heap[gb909]? = some (.cells #[.slice Ao52 t902.length co52, .int .i64 t905] 64 (0, 0))) := ⟨by rw [← hw_]; refine blk_put (cs := #[.slice Ao52 t902.length co52, .int .i64 0]) ?_ 1 _ rfl; refine blk_put (cs := #[.slice none 0 0, .int .i64 0]) ?_ 0 _ rfl; exact BK909.out⟩; have n7_ : Aside0 (Below w.heap.size w w55) := ⟨by rw [← hw_]; exact belA⟩; (try clear HO_4); (try clear HO_8); (try clear HO_883002); (try clear HO904); (try clear HO908); (try clear BK882); (try clear BK909); (try clear HB); clear hw_; have HO_4 := n0_; have HO_8 := n1_; have HO_883002 := n2_; have HO904 := n3_; have HO908 := n4_; have BK882 := n5_; have BK909 := n6_; have HB := n7_; clear n0_ n1_ n2_ n3_ n4_ n5_ n6_ n7_; replace HO_4 := ak (Kd.R_drew HO_4.out); replace HO_8 := ak (Kd.R_drew HO_8.out); replace HO_883002 := ak (Kd.R_drew HO_883002.out); replace HO904 := ak (Kd.R_drew HO904.out); replace HO908 := ak (Kd.S_drew HO908.out); replace BK882 := ak (blk_drew BK882.out); replace BK909 := ak (blk_drew BK909.out); replace HB := ak (below_drew1 HB.out); obtain ⟨Ao57, co57, eo57⟩ := Kd.S_slice HO908.out; (first | subst eo57 | (injection eo57 with f1_ f2_ f3_; have f4_ := f1_.symm; have f5_ := f3_.symm; clear f1_ f2_ f3_; subst f4_; subst f5_))
       have p910 : 0 ≤ (0 : Int) := (by omega); have q910 : 0 < (t906.length : Int) := odA; obtain ⟨ad910, A910_2, c910_2, e910, hx910_0, hx910_1, hx910_2, hl910_2, hi910_2⟩ := at_T59 (Kd.S_reads' HO908.out).2.2 0 p910 q910
       cases e910
       obtain ⟨ce910, hce910, hMe910, hcc910⟩ := Kd.S_get HO908.out z59 0 p910 xq59; obtain ⟨ve910_2, rfl, ge910_2⟩ := k59_openM hMe910; have hv910_2 := hcc910 2 _ rfl; rw [add_field _ _ 2 (by omega)] at hv910_2; replace hv910_2 := Option.some.inj (hv910_2.symm.trans hx910_2); rw [hv910_2] at ge910_2; have HL910_2 := ak (show Kd.R (Kd.int .u8) 5 _ _ _ _ ((rd_T59 t906 0).f2) from ge910_2); clear hv910_2 ge910_2; clear hcc910 hce910; have qi910 : (0 < t906.length) = True := eq_true (by omega); (try rw [show ((0 : Int)).toNat = 0 from rfl] at hx910_0)
       (try rw [show 0 * 3 = 0 from rfl] at hx910_0)
       (try rw [Addr.add_zero'] at hx910_0)
       (try rw [show ((0 : Int)).toNat = 0 from rfl] at hx910_1)
       (try rw [show 0 * 3 = 0 from rfl] at hx910_1)
       (try rw [Addr.add_zero'] at hx910_1)
       (try rw [show ((0 : Int)).toNat = 0 from rfl] at hx910_2)
       (try rw [show 0 * 3 = 0 from rfl] at hx910_2)
       (try rw [Addr.add_zero'] at hx910_2)
       have HR910_2 := ak hi910_2; have HC910_2 := ak hl910_2; clear hi910_2 hl910_2; replace p910 := eq_true p910; replace q910 := eq_true q910; refine start_ (n := 23) (S := fun w' => w'.cell? ⟨gb882, 0, none⟩ = some (.int .i64 t877) ∧ w'.cell? ⟨gb882, 1, none⟩ = some (.int .i64 t878) ∧ w'.cell? ⟨gb882, 2, none⟩ = some (.slice Ao10 t879.length co10) ∧ w'.cell? ⟨gb909, 0, none⟩ = some (.slice Ao52 t902.length co52) ∧ w'.cell? ⟨gb909, 1, none⟩ = some (.int .i64 t905) ∧ w'.cell? ad910 = some (.int .i64 ((rd_T59 t906 0).f0)) ∧ w'.cell? ⟨ad910.block, ad910.off + 1, none⟩ = some (.int .i64 ((rd_T59 t906 0).f1)) ∧ w'.cell? ⟨ad910.block, ad910.off + 2, none⟩ = some (.slice A910_2 ((rd_T59 t906 0).f2).length c910_2)) (ds := []) #[false, false, false, false, false, false, false, false, false, false, false, false, false, false, false, false, false, false, false, false, false, false, false] (by kernel_rfl) rfl rfl ⟨(blk_cell BK882.out 0).trans rfl, (blk_cell BK882.out 1).trans rfl, (blk_cell BK882.out 2).trans rfl, (blk_cell BK909.out 0).trans rfl, (blk_cell BK909.out 1).trans rfl, hx910_0, hx910_1, hx910_2⟩ (fun hHeld => ?_); refine with_tabW laws_FnResync.tab21 laws_FnResync.bits21 (fun HT_ HW_ => ?_)
       generalize w55.drew = w56 at HO_4 HO_8 HO_883002 HO904 HO908 BK882 BK909 HB HL910_2 HR910_2 hx910_0 hx910_1 hx910_2 hHeld ⊢
       refine pure_ (i := 0) (N := some 60) (v := ?_) (a' := ?_) #[true, false, false, false, false, false, false, false, false, false, false, false, false, false, false, false, false, false, false, false, false, false, false] rfl rfl (any_of HT_.out (by kernel_rfl)) (fun _ _ _ h => h) (Or.inl ⟨by rfl, ?_⟩) ?_ ?_
       rotate_left
       · intro w'; go_simp
         with_reducible rfl
       rotate_left
       · simp only [Act.put, sa, sb, sc, i64_w, i32_w]
         rfl
       refine pure_ (i := 1) (N := some 61) (v := ?_) (a' := ?_) #[true, true, false, false, false, false, false, false, false, false, false, false, false, false, false, false, false, false, false, false, false, false, false] rfl rfl (any_of HT_.out (by kernel_rfl)) (fun _ _ _ h => h) (Or.inl ⟨by rfl, ?_⟩) ?_ ?_
       rotate_left
       · intro w'; go_simp
         with_reducible rfl
       rotate_left
       · simp only [Act.put, sa, sb, sc, i64_w, i32_w]
         rfl
       refine pure_ (i := 2) (N := some 62) (v := ?_) (a' := ?_) #[true, true, true, false, false, false, false, false, false, false, false, false, false, false, false, false, false, false, false, false, false, false, false] rfl rfl (any_of HT_.out (by kernel_rfl)) (fun _ _ _ h => h) (Or.inl ⟨by rfl, ?_⟩) ?_ ?_
       rotate_left
       · intro w'; go_simp
         with_reducible rfl
       rotate_left
       · simp only [Act.put, sa, sb, sc, i64_w, i32_w]
         rfl
       refine pure_ (i := 3) (N := some 63) (v := ?_) (a' := ?_) #[true, true, true, true, false, false, false, false, false, false, false, false, false, false, false, false, false, false, false, false, false, false, false] rfl rfl (any_of HT_.out (by kernel_rfl)) (fun _ _ _ h => h) (Or.inl ⟨by rfl, ?_⟩) ?_ ?_
       rotate_left
       · intro w'; go_simp
         with_reducible rfl
       rotate_left
       · simp only [Act.put, sa, sb, sc, i64_w, i32_w]
         rfl
       refine pure_ (i := 4) (N := some 64) (v := ?_) (a' := ?_) #[true, true, true, true, true, false, false, false, false, false, false, false, false, false, false, false, false, false, false, false, false, false, false] rfl rfl (any_of HT_.out (by kernel_rfl)) (fun _ _ _ h => h) (Or.inl ⟨by rfl, ?_⟩) ?_ ?_
       rotate_left
       · intro w'; go_simp
         with_reducible rfl
       rotate_left
       · simp only [Act.put, sa, sb, sc, i64_w, i32_w]
         rfl
       refine pure_ (i := 5) (N := some 65) (v := ?_) (a' := ?_) #[true, true, true, true, true, true, false, false, false, false, false, false, false, false, false, false, false, false, false, false, false, false, false] rfl rfl (any_of HT_.out (by kernel_rfl)) (fun _ _ _ h => h) (Or.inl ⟨by rfl, ?_⟩) ?_ ?_
       rotate_left
       · intro w'; go_simp
         with_reducible rfl
       rotate_left
       · simp only [Act.put, sa, sb, sc, i64_w, i32_w]
         rfl
       refine take_ (i := 6) (N := some 66) (v := ?_) (a' := ?_) #[true, true, true, true, true, true, true, false, false, false, false, false, false, false, false, false, false, false, false, false, false, false, false] rfl rfl (take_ofW HT_.out HW_.out (by kernel_rfl)) (fun _ _ _ h => h) (Or.inl ⟨by rfl, ?_⟩) hHeld ?_ ?_
       rotate_left
       · rintro w' ⟨s0, s1, s2, s3, s4, s5, s6, s7⟩
         go_simp
         with_reducible rfl
       rotate_left
       · simp only [Act.put, sa, sb, sc, i64_w, i32_w]
         rfl
       refine take_ (i := 7) (N := some 67) (v := ?_) (a' := ?_) #[true, true, true, true, true, true, true, true, false, false, false, false, false, false, false, false, false, false, false, false, false, false, false] rfl rfl (take_ofW HT_.out HW_.out (by kernel_rfl)) (fun _ _ _ h => h) (Or.inl ⟨by rfl, ?_⟩) hHeld ?_ ?_
       rotate_left
       · rintro w' ⟨s0, s1, s2, s3, s4, s5, s6, s7⟩
         go_simp
         with_reducible rfl
       rotate_left
       · simp only [Act.put, sa, sb, sc, i64_w, i32_w]
         rfl
       refine one_ (i := 8) (N := some 68) #[true, true, true, true, true, true, true, true, true, false, false, false, false, false, false, false, false, false, false, false, false, false, false] rfl rfl (one_of HT_.out (by kernel_rfl)) (by decide) (fun K hK => ?_)
       refine goes_ Try.func40 (by kernel_rfl) rfl #[.agg #[.int .i64 ((rd_T59 t906 0).f0), .int .i64 ((rd_T59 t906 0).f1), .slice A910_2 ((rd_T59 t906 0).f2).length c910_2], .agg #[.int .i64 t877, .int .i64 t878, .slice Ao10 t879.length co10]] (by rfl) rfl rfl xq24 ?_
       with_reducible refine (laws_sameFrame.calls k2 ((rd_T59 t906 0).f0) ((rd_T59 t906 0).f1) _ _ ((rd_T59 t906 0).f2) t877 t878 _ _ t879 true _ ?side1 ?side2 ?side3 ?side4 A34.out).mono ?_
       (case side1 => exact xq60)
       (case side2 => exact HC910_2.out)
       (case side3 => exact xq44)
       (case side4 => exact (Kd.R_reads' HO_883002.out).2.1)
       rintro e w58 ⟨rfl, hb⟩
       have HS5_ := (hb.cell (World.block_lt_of_cell? _ _ (hHeld.2.2.2.2.2.1))).trans (hHeld.2.2.2.2.2.1); have HS6_ := (hb.cell (World.block_lt_of_cell? _ _ (hHeld.2.2.2.2.2.2.1))).trans (hHeld.2.2.2.2.2.2.1); have HS7_ := (hb.cell (World.block_lt_of_cell? _ _ (hHeld.2.2.2.2.2.2.2))).trans (hHeld.2.2.2.2.2.2.2); refine ⟨_, rfl, ?_⟩
       replace HO_4 := ak (Kd.R_below (rF HO_4) hb); replace HO_8 := ak (Kd.R_below (rF HO_8) hb); replace HO_883002 := ak (Kd.R_below (rF HO_883002) hb); replace HO904 := ak (Kd.R_below (rF HO904) hb); replace HO908 := sB HO908 hb; replace HL910_2 := rB HL910_2 hb; replace BK882 := bB BK882 hb; replace BK909 := bB BK909 hb; replace HR910_2 := ak (Kd.C_below xq32 hb); replace HB := bS hb; (try clear hb); refine hK.out _ _ ⟨(blk_cell BK882.out 0).trans rfl, (blk_cell BK882.out 1).trans rfl, (blk_cell BK882.out 2).trans rfl, (blk_cell BK909.out 0).trans rfl, (blk_cell BK909.out 1).trans rfl, HS5_, HS6_, HS7_⟩ (fun hHeld => ?_)
       clear hK K; refine norm_ (a' := ?_) ?_ ?_
       rotate_left
       · show Act.put _ (some 68) _ = _
         simp only [Act.put, sa, sb, sc, i64_w, i32_w]
         rfl
       refine pure_ (i := 9) (N := some 69) (v := ?_) (a' := ?_) #[true, true, true, true, true, true, true, true, true, true, false, false, false, false, false, false, false, false, false, false, false, false, false] rfl rfl (any_of HT_.out (by kernel_rfl)) (fun _ _ _ h => h) (Or.inl ⟨by rfl, ?_⟩) ?_ ?_
       rotate_left
       · intro w'; go_simp
         with_reducible rfl
       rotate_left
       · simp only [Act.put, sa, sb, sc, i64_w, i32_w]
         rfl
       refine pure_ (i := 10) (N := some 70) (v := ?_) (a' := ?_) #[true, true, true, true, true, true, true, true, true, true, true, false, false, false, false, false, false, false, false, false, false, false, false] rfl rfl (any_of HT_.out (by kernel_rfl)) (fun _ _ _ h => h) (Or.inl ⟨by rfl, ?_⟩) ?_ ?_
       rotate_left
       · intro w'; go_simp
         with_reducible rfl
       rotate_left
       · simp only [Act.put, sa, sb, sc, i64_w, i32_w]
         rfl
       refine pure_ (i := 11) (N := some 71) (v := ?_) (a' := ?_) #[true, true, true, true, true, true, true, true, true, true, true, true, false, false, false, false, false, false, false, false, false, false, false] rfl rfl (any_of HT_.out (by kernel_rfl)) (fun _ _ _ h => h) (Or.inl ⟨by rfl, ?_⟩) ?_ ?_
       rotate_left
       · intro w'; go_simp
         with_reducible rfl
       rotate_left
       · simp only [Act.put, sa, sb, sc, i64_w, i32_w]
         rfl
       refine pure_ (i := 13) (N := some 73) (v := ?_) (a' := ?_) #[true, true, true, true, true, true, true, true, true, true, true, true, false, true, false, false, false, false, false, false, false, false, false] rfl rfl (any_of HT_.out (by kernel_rfl)) (fun _ _ _ h => h) (Or.inl ⟨by rfl, ?_⟩) ?_ ?_
       rotate_left
       · intro w'; go_simp
         with_reducible rfl
       rotate_left
       · simp only [Act.put, sa, sb, sc, i64_w, i32_w]
         rfl
       refine take_ (i := 12) (N := some 72) (v := ?_) (a' := ?_) #[true, true, true, true, true, true, true, true, true, true, true, true, true, true, false, false, false, false, false, false, false, false, false] rfl rfl (take_ofW HT_.out HW_.out (by kernel_rfl)) (fun _ _ _ h => h) (Or.inl ⟨by rfl, ?_⟩) hHeld ?_ ?_
       rotate_left
       · rintro w' ⟨s0, s1, s2, s3, s4, s5, s6, s7⟩
         go_simp
         with_reducible rfl
       rotate_left
       · simp only [Act.put, sa, sb, sc, i64_w, i32_w]
         rfl
       refine pure_ (i := 14) (N := some 74) (v := ?_) (a' := ?_) #[true, true, true, true, true, true, true, true, true, true, true, true, true, true, true, false, false, false, false, false, false, false, false] rfl rfl (any_of HT_.out (by kernel_rfl)) (fun _ _ _ h => h) (Or.inl ⟨by rfl, ?_⟩) ?_ ?_
       rotate_left
       · intro w'; go_simp
         with_reducible rfl
       rotate_left
       · simp only [Act.put, sa, sb, sc, i64_w, i32_w]
         rfl
       refine pure_ (i := 15) (N := some 75) (v := ?_) (a' := ?_) #[true, true, true, true, true, true, true, true, true, true, true, true, true, true, true, true, false, false, false, false, false, false, false] rfl rfl (any_of HT_.out (by kernel_rfl)) (fun _ _ _ h => h) (Or.inl ⟨by rfl, ?_⟩) ?_ ?_
       rotate_left
       · intro w'; go_simp
         with_reducible rfl
       rotate_left
       · simp only [Act.put, sa, sb, sc, i64_w, i32_w]
         rfl
       refine pure_ (i := 16) (N := some 76) (v := ?_) (a' := ?_) #[true, true, true, true, true, true, true, true, true, true, true, true, true, true, true, true, true, false, false, false, false, false, false] rfl rfl (any_of HT_.out (by kernel_rfl)) (fun _ _ _ h => h) (Or.inl ⟨by rfl, ?_⟩) ?_ ?_
       rotate_left
       · intro w'; go_simp
         with_reducible rfl
       rotate_left
       · simp only [Act.put, sa, sb, sc, i64_w, i32_w]
         rfl
       refine pure_ (i := 17) (N := some 77) (v := undef) (a' := ?_) #[true, true, true, true, true, true, true, true, true, true, true, true, true, true, true, true, true, true, false, false, false, false, false] rfl rfl (any_of HT_.out (by kernel_rfl)) (fun _ _ _ h => h) (Or.inr ⟨by rfl, rfl⟩) ?_ ?_
       rotate_left
       · simp only [Act.put, sa, sb, sc, i64_w, i32_w]
         rfl
       refine pure_ (i := 18) (N := some 78) (v := undef) (a' := ?_) #[true, true, true, true, true, true, true, true, true, true, true, true, true, true, true, true, true, true, true, false, false, false, false] rfl rfl (any_of HT_.out (by kernel_rfl)) (fun _ _ _ h => h) (Or.inr ⟨by rfl, rfl⟩) ?_ ?_
       rotate_left
       · simp only [Act.put, sa, sb, sc, i64_w, i32_w]
         rfl
       refine pure_ (i := 19) (N := some 79) (v := undef) (a' := ?_) #[true, true, true, true, true, true, true, true, true, true, true, true, true, true, true, true, true, true, true, true, false, false, false] rfl rfl (any_of HT_.out (by kernel_rfl)) (fun _ _ _ h => h) (Or.inr ⟨by rfl, rfl⟩) ?_ ?_
       rotate_left
       · simp only [Act.put, sa, sb, sc, i64_w, i32_w]
         rfl
       refine pure_ (i := 20) (N := some 80) (v := undef) (a' := ?_) #[true, true, true, true, true, true, true, true, true, true, true, true, true, true, true, true, true, true, true, true, true, false, false] rfl rfl (any_of HT_.out (by kernel_rfl)) (fun _ _ _ h => h) (Or.inr ⟨by rfl, rfl⟩) ?_ ?_
       rotate_left
       · simp only [Act.put, sa, sb, sc, i64_w, i32_w]
         rfl
       refine pure_ (i := 21) (N := some 81) (v := ?_) (a' := ?_) #[true, true, true, true, true, true, true, true, true, true, true, true, true, true, true, true, true, true, true, true, true, true, false] rfl rfl (any_of HT_.out (by kernel_rfl)) (fun _ _ _ h => h) (Or.inl ⟨by rfl, ?_⟩) ?_ ?_
       rotate_left
       · intro w'; go_simp
         with_reducible rfl
       rotate_left
       · simp only [Act.put, sa, sb, sc, i64_w, i32_w]
         rfl
       refine pure_ (i := 22) (N := some 2) (v := ?_) (a' := ?_) #[true, true, true, true, true, true, true, true, true, true, true, true, true, true, true, true, true, true, true, true, true, true, true] rfl rfl (any_of HT_.out (by kernel_rfl)) (fun _ _ _ h => h) (Or.inl ⟨by rfl, ?_⟩) ?_ ?_
       rotate_left
       · intro w'; go_simp
         with_reducible rfl
       rotate_left
       · simp only [Act.put, sa, sb, sc, i64_w, i32_w]
         rfl
       refine done_ (done_of HT_.out (by kernel_rfl)) ?_
       try go_wp2
       go_ret
       exact ⟨xq4, belA⟩
     rw [if_pos c36] at H; have c36b0 : (t905 == (x4_1.length : Int)) = true := beq_iff_eq.mpr c36; have c36b1 : (t905 != (x4_1.length : Int)) = false := bne_eq_false_iff_eq.mpr c36; clear c36; obtain rfl := Option.some.inj H; obtain ⟨Ao37, co37, eo37⟩ := Kd.R_slice HO_8.out; subst eo37; obtain ⟨Ao38, co38, eo38⟩ := Kd.R_slice HO_4.out; subst eo38; try go_wp2_with (first | ((with_reducible refine gate_callee (f := 39) rfl ?_); refine goB 57 Try.func39 #[.agg #[.slice none 0 0, .int .i64 0], .slice Ao38 x4_2.length co38] rfl ?_; (refine (impl_Feed.calls k2 _ _ ([] : List Int) 0 _ _ x4_2 t902 t905 t906 _ ?side1 ?side2 ?side3 ?side4 A31.out).mono ?_); (case side1 => exact Kd.C_nil _ _); (case side2 => exact Nat.le_refl _); (case side3 => exact cA ((Kd.R_reads' HO_4.out).2.2)); (case side4 => exact (Kd.R_reads' HO_4.out).2.1); rintro e w39 ⟨v903, v907, rfl, ho0, ho1, hb⟩; refine ⟨_, rfl, ?_⟩; have HO904 := rL (Kd.R_new' (Kd.R_new' (Kd.R_new' ho0 (Kd.R_lt (rF HO_4))) (Kd.R_lt (rF HO_8))) (Kd.R_lt (rF HO_883002))); have HO908 := sL (Kd.S_newB (Kd.S_new' (Kd.S_new' (Kd.S_new' ho1 (Kd.R_lt (rF HO_4))) (Kd.R_lt (rF HO_8))) (Kd.R_lt (rF HO_883002))) (g := gb882) (o := .cells #[.int .i64 t877, .int .i64 t878, .slice Ao10 t879.length co10] 59 (0, 0)) blkA); replace HO_4 := ak (Kd.R_elder' (rF HO_4) (Kd.R_base ho0) hb); replace HO_8 := ak (Kd.R_elder' (rF HO_8) (Kd.R_base ho0) hb); replace HO_883002 := ak (Kd.R_elder' (rF HO_883002) (Kd.R_base ho0) hb); replace BK882 := bB BK882 hb; replace HB := bS hb; (try clear hb ho0 ho1)) | ((with_reducible refine gate_dst (N := 10) rfl ?_); (try (refine gate_guard (by rfl) ?_; dsimp only)); refine boxA 10 #[.slice none 0 0, .int .i64 0] 64 ?_; intro gb909 hg w40 hbox hb; have BK909 := ak hbox; have GW909 := leA (w := w) hg; have GE909 := leA (w := w) hg; have NB882_909 := neL hg BK882; have NB909_882 := neG hg BK882; replace HO_4 := ak (Kd.R_below (rF HO_4) hb); replace HO_8 := ak (Kd.R_below (rF HO_8) hb); replace HO_883002 := ak (Kd.R_below (rF HO_883002) hb); replace HO904 := ak (Kd.R_below (rF HO904) hb); replace HO908 := sB HO908 hb; replace BK882 := bB BK882 hb; replace HB := bS hb; clear hb hbox hg; obtain ⟨Ao41, co41, eo41⟩ := Kd.R_slice HO904.out; subst eo41; have hnb42 := NB909_882.out; have hnc42 := NB882_909.out; obtain ⟨hcz43_0, hcz43_1, hfz43_0, hfz43_1⟩ := cel2 BK909))
     generalize hw_ : ((w40.setCell ⟨gb909, 0, none⟩ (.slice Ao41 t902.length co41)).setCell ⟨gb909, 1, none⟩ (.int .i64 t905)) = w44; have n0_ : Aside0 (Kd.R (Kd.int .u8) 5 w44 w.heap.size (fun k_ => some k_ ≠ (.slice Ao37 t895.length co37 : Value).ownBlock ∧ some k_ ≠ (.slice Ao10 t879.length co10 : Value).ownBlock ∧ some k_ ≠ (.slice Ao41 t902.length co41 : Value).ownBlock) (.slice Ao38 x4_2.length co38) x4_2) := ⟨by rw [← hw_]; exact (Kd.R_mono (Kd.R_far (p := ⟨gb909, 1, none⟩) (Kd.R_far (p := ⟨gb909, 0, none⟩) (Kd.R_types HO_4.out BK909.out (by decide)) (fun _ hk => hk.2) (.slice Ao41 t902.length co41)) (fun _ hk => hk.2) (.int .i64 t905)) (fun _ hk => ⟨hk.1.1.1, ⟨hk.1.1.2, hk.1.2⟩⟩))⟩; have n1_ : Aside0 (Kd.R (Kd.int .u8) 5 w44 w.heap.size (fun k_ => some k_ ≠ (.slice Ao38 x4_2.length co38 : Value).ownBlock ∧ some k_ ≠ (.slice Ao10 t879.length co10 : Value).ownBlock ∧ some k_ ≠ (.slice Ao41 t902.length co41 : Value).ownBlock) (.slice Ao37 t895.length co37) t895) := ⟨by rw [← hw_]; exact (Kd.R_mono (Kd.R_far (p := ⟨gb909, 1, none⟩) (Kd.R_far (p := ⟨gb909, 0, none⟩) (Kd.R_types HO_8.out BK909.out (by decide)) (fun _ hk => hk.2) (.slice Ao41 t902.length co41)) (fun _ hk => hk.2) (.int .i64 t905)) (fun _ hk => ⟨hk.1.1.1, ⟨hk.1.1.2, hk.1.2⟩⟩))⟩; have n2_ : Aside0 (Kd.R (Kd.int .u8) 5 w44 w.heap.size (fun k_ => some k_ ≠ (.slice Ao38 x4_2.length co38 : Value).ownBlock ∧ some k_ ≠ (.slice Ao37 t895.length co37 : Value).ownBlock ∧ some k_ ≠ (.slice Ao41 t902.length co41 : Value).ownBlock) (.slice Ao10 t879.length co10) t879) := ⟨by rw [← hw_]; exact (Kd.R_mono (Kd.R_far (p := ⟨gb909, 1, none⟩) (Kd.R_far (p := ⟨gb909, 0, none⟩) (Kd.R_types HO_883002.out BK909.out (by decide)) (fun _ hk => hk.2) (.slice Ao41 t902.length co41)) (fun _ hk => hk.2) (.int .i64 t905)) (fun _ hk => ⟨hk.1.1.1, ⟨hk.1.1.2, hk.1.2⟩⟩))⟩; have n3_ : Aside0 (Kd.R (Kd.int .u8) 5 w44 w.heap.size (fun k_ => some k_ ≠ (.slice Ao38 x4_2.length co38 : Value).ownBlock ∧ some k_ ≠ (.slice Ao37 t895.length co37 : Value).ownBlock ∧ some k_ ≠ (.slice Ao10 t879.length co10 : Value).ownBlock) (.slice Ao41 t902.length co41) t902) := ⟨by rw [← hw_]; exact (Kd.R_mono (Kd.R_far (p := ⟨gb909, 1, none⟩) (Kd.R_far (p := ⟨gb909, 0, none⟩) (Kd.R_types HO904.out BK909.out (by decide)) (fun _ hk => hk.2) (.slice Ao41 t902.length co41)) (fun _ hk => hk.2) (.int .i64 t905)) (fun _ hk => ⟨hk.1.1.1.2, ⟨hk.1.1.2, hk.1.2⟩⟩))⟩; have n4_ : Aside0 (Kd.S k59 59 w44 w.heap.size (fun k_ => some k_ ≠ (.slice Ao38 x4_2.length co38 : Value).ownBlock ∧ some k_ ≠ (.slice Ao37 t895.length co37 : Value).ownBlock ∧ some k_ ≠ (.slice Ao10 t879.length co10 : Value).ownBlock ∧ some k_ ≠ (.slice Ao41 t902.length co41 : Value).ownBlock ∧ k_ ≠ gb882) v907 t906) := ⟨by rw [← hw_]; exact (Kd.S_mono (Kd.S_far (p := ⟨gb909, 1, none⟩) (Kd.S_far (p := ⟨gb909, 0, none⟩) (Kd.S_types HO908.out BK909.out (by decide)) (fun _ hk => hk.2) (.slice Ao41 t902.length co41)) (fun _ hk => hk.2) (.int .i64 t905)) (fun _ hk => ⟨hk.1.1.1.1.2, ⟨hk.1.1.1.2, ⟨hk.1.1.2, ⟨hk.1.1.1.1.1, hk.1.2⟩⟩⟩⟩))⟩; have n5_ : Aside0 (w44.heap[gb882]? = some (.cells #[.int .i64 t877, .int .i64 t878, .slice Ao10 t879.length co10] 59 (0, 0))) := ⟨xq43⟩; have n6_ : Aside0 (w44.heap[gb909]? = some (.cells #[.slice Ao41 t902.length co41, .int .i64 t905] 64 (0, 0))) := ⟨by rw [← hw_]; refine blk_put (cs := #[.slice Ao41 t902.length co41, .int .i64 0]) ?_ 1 _ rfl; refine blk_put (cs := #[.slice none 0 0, .int .i64 0]) ?_ 0 _ rfl; exact BK909.out⟩; have n7_ : Aside0 (Below w.heap.size w w44) := ⟨by rw [← hw_]; exact belA⟩; (try clear HO_4); (try clear HO_8); (try clear HO_883002); (try clear HO904); (try clear HO908); (try clear BK882); (try clear BK909); (try clear HB); clear hw_; have HO_4 := n0_; have HO_8 := n1_; have HO_883002 := n2_; have HO904 := n3_; have HO908 := n4_; have BK882 := n5_; have BK909 := n6_; have HB := n7_; clear n0_ n1_ n2_ n3_ n4_ n5_ n6_ n7_; replace HO_4 := ak (Kd.R_drew HO_4.out); replace HO_8 := ak (Kd.R_drew HO_8.out); replace HO_883002 := ak (Kd.R_drew HO_883002.out); replace HO904 := ak (Kd.R_drew HO904.out); replace HO908 := ak (Kd.S_drew HO908.out); replace BK882 := ak (blk_drew BK882.out); replace BK909 := ak (blk_drew BK909.out); replace HB := ak (below_drew1 HB.out); obtain ⟨Ao46, co46, eo46⟩ := Kd.S_slice HO908.out; (first | subst eo46 | (injection eo46 with f1_ f2_ f3_; have f4_ := f1_.symm; have f5_ := f3_.symm; clear f1_ f2_ f3_; subst f4_; subst f5_))
     have p910 : 0 ≤ (0 : Int) := (by omega); have q910 : 0 < (t906.length : Int) := odA; obtain ⟨ad910, A910_2, c910_2, e910, hx910_0, hx910_1, hx910_2, hl910_2, hi910_2⟩ := at_T59 (Kd.S_reads' HO908.out).2.2 0 p910 q910
     cases e910
     obtain ⟨ce910, hce910, hMe910, hcc910⟩ := Kd.S_get HO908.out z59 0 p910 xq59; obtain ⟨ve910_2, rfl, ge910_2⟩ := k59_openM hMe910; have hv910_2 := hcc910 2 _ rfl; rw [add_field _ _ 2 (by omega)] at hv910_2; replace hv910_2 := Option.some.inj (hv910_2.symm.trans hx910_2); rw [hv910_2] at ge910_2; have HL910_2 := ak (show Kd.R (Kd.int .u8) 5 _ _ _ _ ((rd_T59 t906 0).f2) from ge910_2); clear hv910_2 ge910_2; clear hcc910 hce910; have qi910 : (0 < t906.length) = True := eq_true (by omega); (try rw [show ((0 : Int)).toNat = 0 from rfl] at hx910_0)
     (try rw [show 0 * 3 = 0 from rfl] at hx910_0)
     (try rw [Addr.add_zero'] at hx910_0)
     (try rw [show ((0 : Int)).toNat = 0 from rfl] at hx910_1)
     (try rw [show 0 * 3 = 0 from rfl] at hx910_1)
     (try rw [Addr.add_zero'] at hx910_1)
     (try rw [show ((0 : Int)).toNat = 0 from rfl] at hx910_2)
     (try rw [show 0 * 3 = 0 from rfl] at hx910_2)
     (try rw [Addr.add_zero'] at hx910_2)
     have HR910_2 := ak hi910_2; have HC910_2 := ak hl910_2; clear hi910_2 hl910_2; replace p910 := eq_true p910; replace q910 := eq_true q910; refine start_ (n := 23) (S := fun w' => w'.cell? ⟨gb882, 0, none⟩ = some (.int .i64 t877) ∧ w'.cell? ⟨gb882, 1, none⟩ = some (.int .i64 t878) ∧ w'.cell? ⟨gb882, 2, none⟩ = some (.slice Ao10 t879.length co10) ∧ w'.cell? ⟨gb909, 0, none⟩ = some (.slice Ao41 t902.length co41) ∧ w'.cell? ⟨gb909, 1, none⟩ = some (.int .i64 t905) ∧ w'.cell? ad910 = some (.int .i64 ((rd_T59 t906 0).f0)) ∧ w'.cell? ⟨ad910.block, ad910.off + 1, none⟩ = some (.int .i64 ((rd_T59 t906 0).f1)) ∧ w'.cell? ⟨ad910.block, ad910.off + 2, none⟩ = some (.slice A910_2 ((rd_T59 t906 0).f2).length c910_2)) (ds := []) #[false, false, false, false, false, false, false, false, false, false, false, false, false, false, false, false, false, false, false, false, false, false, false] (by kernel_rfl) rfl rfl ⟨(blk_cell BK882.out 0).trans rfl, (blk_cell BK882.out 1).trans rfl, (blk_cell BK882.out 2).trans rfl, (blk_cell BK909.out 0).trans rfl, (blk_cell BK909.out 1).trans rfl, hx910_0, hx910_1, hx910_2⟩ (fun hHeld => ?_); refine with_tabW laws_FnResync.tab21 laws_FnResync.bits21 (fun HT_ HW_ => ?_)
     generalize w44.drew = w45 at HO_4 HO_8 HO_883002 HO904 HO908 BK882 BK909 HB HL910_2 HR910_2 hx910_0 hx910_1 hx910_2 hHeld ⊢
     refine pure_ (i := 0) (N := some 60) (v := ?_) (a' := ?_) #[true, false, false, false, false, false, false, false, false, false, false, false, false, false, false, false, false, false, false, false, false, false, false] rfl rfl (any_of HT_.out (by kernel_rfl)) (fun _ _ _ h => h) (Or.inl ⟨by rfl, ?_⟩) ?_ ?_
     rotate_left
     · intro w'; go_simp
       with_reducible rfl
     rotate_left
     · simp only [Act.put, sa, sb, sc, i64_w, i32_w]
       rfl
     refine pure_ (i := 1) (N := some 61) (v := ?_) (a' := ?_) #[true, true, false, false, false, false, false, false, false, false, false, false, false, false, false, false, false, false, false, false, false, false, false] rfl rfl (any_of HT_.out (by kernel_rfl)) (fun _ _ _ h => h) (Or.inl ⟨by rfl, ?_⟩) ?_ ?_
     rotate_left
     · intro w'; go_simp
       with_reducible rfl
     rotate_left
     · simp only [Act.put, sa, sb, sc, i64_w, i32_w]
       rfl
     refine pure_ (i := 2) (N := some 62) (v := ?_) (a' := ?_) #[true, true, true, false, false, false, false, false, false, false, false, false, false, false, false, false, false, false, false, false, false, false, false] rfl rfl (any_of HT_.out (by kernel_rfl)) (fun _ _ _ h => h) (Or.inl ⟨by rfl, ?_⟩) ?_ ?_
     rotate_left
     · intro w'; go_simp
       with_reducible rfl
     rotate_left
     · simp only [Act.put, sa, sb, sc, i64_w, i32_w]
       rfl
     refine pure_ (i := 3) (N := some 63) (v := ?_) (a' := ?_) #[true, true, true, true, false, false, false, false, false, false, false, false, false, false, false, false, false, false, false, false, false, false, false] rfl rfl (any_of HT_.out (by kernel_rfl)) (fun _ _ _ h => h) (Or.inl ⟨by rfl, ?_⟩) ?_ ?_
     rotate_left
     · intro w'; go_simp
       with_reducible rfl
     rotate_left
     · simp only [Act.put, sa, sb, sc, i64_w, i32_w]
       rfl
     refine pure_ (i := 4) (N := some 64) (v := ?_) (a' := ?_) #[true, true, true, true, true, false, false, false, false, false, false, false, false, false, false, false, false, false, false, false, false, false, false] rfl rfl (any_of HT_.out (by kernel_rfl)) (fun _ _ _ h => h) (Or.inl ⟨by rfl, ?_⟩) ?_ ?_
     rotate_left
     · intro w'; go_simp
       with_reducible rfl
     rotate_left
     · simp only [Act.put, sa, sb, sc, i64_w, i32_w]
       rfl
     refine pure_ (i := 5) (N := some 65) (v := ?_) (a' := ?_) #[true, true, true, true, true, true, false, false, false, false, false, false, false, false, false, false, false, false, false, false, false, false, false] rfl rfl (any_of HT_.out (by kernel_rfl)) (fun _ _ _ h => h) (Or.inl ⟨by rfl, ?_⟩) ?_ ?_
     rotate_left
     · intro w'; go_simp
       with_reducible rfl
     rotate_left
     · simp only [Act.put, sa, sb, sc, i64_w, i32_w]
       rfl
     refine take_ (i := 6) (N := some 66) (v := ?_) (a' := ?_) #[true, true, true, true, true, true, true, false, false, false, false, false, false, false, false, false, false, false, false, false, false, false, false] rfl rfl (take_ofW HT_.out HW_.out (by kernel_rfl)) (fun _ _ _ h => h) (Or.inl ⟨by rfl, ?_⟩) hHeld ?_ ?_
     rotate_left
     · rintro w' ⟨s0, s1, s2, s3, s4, s5, s6, s7⟩
       go_simp
       with_reducible rfl
     rotate_left
     · simp only [Act.put, sa, sb, sc, i64_w, i32_w]
       rfl
     refine take_ (i := 7) (N := some 67) (v := ?_) (a' := ?_) #[true, true, true, true, true, true, true, true, false, false, false, false, false, false, false, false, false, false, false, false, false, false, false] rfl rfl (take_ofW HT_.out HW_.out (by kernel_rfl)) (fun _ _ _ h => h) (Or.inl ⟨by rfl, ?_⟩) hHeld ?_ ?_
     rotate_left
     · rintro w' ⟨s0, s1, s2, s3, s4, s5, s6, s7⟩
       go_simp
       with_reducible rfl
     rotate_left
     · simp only [Act.put, sa, sb, sc, i64_w, i32_w]
       rfl
     refine one_ (i := 8) (N := some 68) #[true, true, true, true, true, true, true, true, true, false, false, false, false, false, false, false, false, false, false, false, false, false, false] rfl rfl (one_of HT_.out (by kernel_rfl)) (by decide) (fun K hK => ?_)
     refine goes_ Try.func40 (by kernel_rfl) rfl #[.agg #[.int .i64 ((rd_T59 t906 0).f0), .int .i64 ((rd_T59 t906 0).f1), .slice A910_2 ((rd_T59 t906 0).f2).length c910_2], .agg #[.int .i64 t877, .int .i64 t878, .slice Ao10 t879.length co10]] (by rfl) rfl rfl xq24 ?_
     with_reducible refine (laws_sameFrame.calls k2 ((rd_T59 t906 0).f0) ((rd_T59 t906 0).f1) _ _ ((rd_T59 t906 0).f2) t877 t878 _ _ t879 true _ ?side1 ?side2 ?side3 ?side4 A34.out).mono ?_
     (case side1 => exact xq60)
     (case side2 => exact HC910_2.out)
     (case side3 => exact xq44)
     (case side4 => exact (Kd.R_reads' HO_883002.out).2.1)
     rintro e w47 ⟨rfl, hb⟩
     have HS5_ := (hb.cell (World.block_lt_of_cell? _ _ (hHeld.2.2.2.2.2.1))).trans (hHeld.2.2.2.2.2.1); have HS6_ := (hb.cell (World.block_lt_of_cell? _ _ (hHeld.2.2.2.2.2.2.1))).trans (hHeld.2.2.2.2.2.2.1); have HS7_ := (hb.cell (World.block_lt_of_cell? _ _ (hHeld.2.2.2.2.2.2.2))).trans (hHeld.2.2.2.2.2.2.2); refine ⟨_, rfl, ?_⟩
     replace HO_4 := ak (Kd.R_below (rF HO_4) hb); replace HO_8 := ak (Kd.R_below (rF HO_8) hb); replace HO_883002 := ak (Kd.R_below (rF HO_883002) hb); replace HO904 := ak (Kd.R_below (rF HO904) hb); replace HO908 := sB HO908 hb; replace HL910_2 := rB HL910_2 hb; replace BK882 := bB BK882 hb; replace BK909 := bB BK909 hb; replace HR910_2 := ak (Kd.C_below xq32 hb); replace HB := bS hb; (try clear hb); refine hK.out _ _ ⟨(blk_cell BK882.out 0).trans rfl, (blk_cell BK882.out 1).trans rfl, (blk_cell BK882.out 2).trans rfl, (blk_cell BK909.out 0).trans rfl, (blk_cell BK909.out 1).trans rfl, HS5_, HS6_, HS7_⟩ (fun hHeld => ?_)
     clear hK K; refine norm_ (a' := ?_) ?_ ?_
     rotate_left
     · show Act.put _ (some 68) _ = _
       simp only [Act.put, sa, sb, sc, i64_w, i32_w]
       rfl
     refine pure_ (i := 9) (N := some 69) (v := ?_) (a' := ?_) #[true, true, true, true, true, true, true, true, true, true, false, false, false, false, false, false, false, false, false, false, false, false, false] rfl rfl (any_of HT_.out (by kernel_rfl)) (fun _ _ _ h => h) (Or.inl ⟨by rfl, ?_⟩) ?_ ?_
     rotate_left
     · intro w'; go_simp
       with_reducible rfl
     rotate_left
     · simp only [Act.put, sa, sb, sc, i64_w, i32_w]
       rfl
     refine pure_ (i := 10) (N := some 70) (v := ?_) (a' := ?_) #[true, true, true, true, true, true, true, true, true, true, true, false, false, false, false, false, false, false, false, false, false, false, false] rfl rfl (any_of HT_.out (by kernel_rfl)) (fun _ _ _ h => h) (Or.inl ⟨by rfl, ?_⟩) ?_ ?_
     rotate_left
     · intro w'; go_simp
       with_reducible rfl
     rotate_left
     · simp only [Act.put, sa, sb, sc, i64_w, i32_w]
       rfl
     refine pure_ (i := 11) (N := some 71) (v := ?_) (a' := ?_) #[true, true, true, true, true, true, true, true, true, true, true, true, false, false, false, false, false, false, false, false, false, false, false] rfl rfl (any_of HT_.out (by kernel_rfl)) (fun _ _ _ h => h) (Or.inl ⟨by rfl, ?_⟩) ?_ ?_
     rotate_left
     · intro w'; go_simp
       with_reducible rfl
     rotate_left
     · simp only [Act.put, sa, sb, sc, i64_w, i32_w]
       rfl
     refine pure_ (i := 13) (N := some 73) (v := ?_) (a' := ?_) #[true, true, true, true, true, true, true, true, true, true, true, true, false, true, false, false, false, false, false, false, false, false, false] rfl rfl (any_of HT_.out (by kernel_rfl)) (fun _ _ _ h => h) (Or.inl ⟨by rfl, ?_⟩) ?_ ?_
     rotate_left
     · intro w'; go_simp
       with_reducible rfl
     rotate_left
     · simp only [Act.put, sa, sb, sc, i64_w, i32_w]
       rfl
     refine take_ (i := 12) (N := some 72) (v := ?_) (a' := ?_) #[true, true, true, true, true, true, true, true, true, true, true, true, true, true, false, false, false, false, false, false, false, false, false] rfl rfl (take_ofW HT_.out HW_.out (by kernel_rfl)) (fun _ _ _ h => h) (Or.inl ⟨by rfl, ?_⟩) hHeld ?_ ?_
     rotate_left
     · rintro w' ⟨s0, s1, s2, s3, s4, s5, s6, s7⟩
       go_simp
       with_reducible rfl
     rotate_left
     · simp only [Act.put, sa, sb, sc, i64_w, i32_w]
       rfl
     refine pure_ (i := 14) (N := some 74) (v := ?_) (a' := ?_) #[true, true, true, true, true, true, true, true, true, true, true, true, true, true, true, false, false, false, false, false, false, false, false] rfl rfl (any_of HT_.out (by kernel_rfl)) (fun _ _ _ h => h) (Or.inl ⟨by rfl, ?_⟩) ?_ ?_
     rotate_left
     · intro w'; go_simp
       with_reducible rfl
     rotate_left
     · simp only [Act.put, sa, sb, sc, i64_w, i32_w]
       rfl
     refine pure_ (i := 15) (N := some 75) (v := ?_) (a' := ?_) #[true, true, true, true, true, true, true, true, true, true, true, true, true, true, true, true, false, false, false, false, false, false, false] rfl rfl (any_of HT_.out (by kernel_rfl)) (fun _ _ _ h => h) (Or.inl ⟨by rfl, ?_⟩) ?_ ?_
     rotate_left
     · intro w'; go_simp
       with_reducible rfl
     rotate_left
     · simp only [Act.put, sa, sb, sc, i64_w, i32_w]
       rfl
     refine pure_ (i := 16) (N := some 76) (v := ?_) (a' := ?_) #[true, true, true, true, true, true, true, true, true, true, true, true, true, true, true, true, true, false, false, false, false, false, false] rfl rfl (any_of HT_.out (by kernel_rfl)) (fun _ _ _ h => h) (Or.inl ⟨by rfl, ?_⟩) ?_ ?_
     rotate_left
     · intro w'; go_simp
       with_reducible rfl
     rotate_left
     · simp only [Act.put, sa, sb, sc, i64_w, i32_w]
       rfl
     refine pure_ (i := 17) (N := some 77) (v := ?_) (a' := ?_) #[true, true, true, true, true, true, true, true, true, true, true, true, true, true, true, true, true, true, false, false, false, false, false] rfl rfl (any_of HT_.out (by kernel_rfl)) (fun _ _ _ h => h) (Or.inl ⟨by rfl, ?_⟩) ?_ ?_
     rotate_left
     · intro w'; go_simp
       with_reducible rfl
     rotate_left
     · simp only [Act.put, sa, sb, sc, i64_w, i32_w]
       rfl
     refine take_ (i := 18) (N := some 78) (v := ?_) (a' := ?_) #[true, true, true, true, true, true, true, true, true, true, true, true, true, true, true, true, true, true, true, false, false, false, false] rfl rfl (take_ofW HT_.out HW_.out (by kernel_rfl)) (fun _ _ _ h => h) (Or.inl ⟨by rfl, ?_⟩) hHeld ?_ ?_
     rotate_left
     · rintro w' ⟨s0, s1, s2, s3, s4, s5, s6, s7⟩
       go_simp
       with_reducible rfl
     rotate_left
     · simp only [Act.put, sa, sb, sc, i64_w, i32_w]
       rfl
     refine pure_ (i := 19) (N := some 79) (v := ?_) (a' := ?_) #[true, true, true, true, true, true, true, true, true, true, true, true, true, true, true, true, true, true, true, true, false, false, false] rfl rfl (any_of HT_.out (by kernel_rfl)) (fun _ _ _ h => h) (Or.inl ⟨by rfl, ?_⟩) ?_ ?_
     rotate_left
     · intro w'; go_simp
       with_reducible rfl
     rotate_left
     · simp only [Act.put, sa, sb, sc, i64_w, i32_w]
       rfl
     refine pure_ (i := 20) (N := some 80) (v := ?_) (a' := ?_) #[true, true, true, true, true, true, true, true, true, true, true, true, true, true, true, true, true, true, true, true, true, false, false] rfl rfl (any_of HT_.out (by kernel_rfl)) (fun _ _ _ h => h) (Or.inl ⟨by rfl, ?_⟩) ?_ ?_
     rotate_left
     · intro w'; go_simp
       with_reducible rfl
     rotate_left
     · simp only [Act.put, sa, sb, sc, i64_w, i32_w]
       rfl
     refine pure_ (i := 21) (N := some 81) (v := ?_) (a' := ?_) #[true, true, true, true, true, true, true, true, true, true, true, true, true, true, true, true, true, true, true, true, true, true, false] rfl rfl (any_of HT_.out (by kernel_rfl)) (fun _ _ _ h => h) (Or.inl ⟨by rfl, ?_⟩) ?_ ?_
     rotate_left
     · intro w'; go_simp
       with_reducible rfl
     rotate_left
     · simp only [Act.put, sa, sb, sc, i64_w, i32_w]
       rfl
     refine pure_ (i := 22) (N := some 2) (v := ?_) (a' := ?_) #[true, true, true, true, true, true, true, true, true, true, true, true, true, true, true, true, true, true, true, true, true, true, true] rfl rfl (any_of HT_.out (by kernel_rfl)) (fun _ _ _ h => h) (Or.inl ⟨by rfl, ?_⟩) ?_ ?_
     rotate_left
     · intro w'; go_simp
       with_reducible rfl
     rotate_left
     · simp only [Act.put, sa, sb, sc, i64_w, i32_w]
       rfl
     refine done_ (done_of HT_.out (by kernel_rfl)) ?_
     try go_wp2
     go_ret
     exact ⟨xq4, belA⟩

/-- THE ONE PURE STATEMENT of laws_FnResync: yours. -/
def laws_FnResync.Pure : Prop := ∀ (l0 : List Int), l0.length ≤ maxLen → l0.length * 1 ≤ 140737488351232 → (∀ x ∈ l0, (Lit.int .u8 x).wf = true) → ∃ k, laws_FnResync.f k l0 = some true
theorem laws_FnResync.walk (P : laws_FnResync.Pure) (a0 : Option Addr) (len0 cap0 : Nat) (z0 : List Int) (w : World) (w0 : (a0 = none ∧ len0 = 0 ∧ cap0 = 0 ∧ z0 = []) ∨ ∃ x, a0 = some x ∧ len0 ≤ cap0 ∧ cap0 ≤ maxLen ∧ z0.length = cap0 ∧ (∀ i, i < z0.length → w.cell? (x.add i) = some (.int .u8 (z0.getD i 0))) ∧ ∀ n ∈ z0, (Lit.int .u8 n).wf = true) (y0 : len0 * 1 ≤ 140737488351232) :
 Calls Try.prog 6 #[.slice a0 len0 cap0] w fun e w' => e = .returned (.bool true) ∧ Below w.heap.size w w' := by
 obtain ⟨l0, rfl, hr0, hm0, hw0, hc0⟩ := ReadsInt.ofRowC w0; obtain ⟨k, h⟩ := P l0 hm0 y0 hw0; refine (laws_FnResync.calls k _ _ l0 true w (Kd.C_of_reads (d := (0 : Int)) (h1 := fun _ => rfl) hr0) hc0 h).mono ?_
 rintro e w' ⟨rfl, hd⟩
 exact ⟨rfl, hd⟩

end Go.Proofs.Ytdefnccngnilmaa.PFnResync

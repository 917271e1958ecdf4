-- Written by a program of this session (the print of the kit with contracts of this session's own added)
import Derived.Test.YtbojabmpcfclhaaZFEPJx4
set_option maxHeartbeats 8000000
set_option maxRecDepth 100000
namespace Go.Proofs.Ytbojabmpcfclhaa.PFnExactPackJobs
open Go.RowKit Go.Proofs.YtbojabmpcfclhaaW.PrintWords Go.Proofs.YtbojabmpcfclhaaW.PrintLast Go.Proofs.YtbojabmpcfclhaaW.PrintMore Go.Proofs.YtbojabmpcfclhaaW.PrintPack Go.Proofs.YtbojabmpcfclhaaW.PrintPack
set_option linter.unusedVariables false
set_option linter.unusedSimpArgs false

def spec_CheckSum.l0 : Nat → List Int → Int → Int → Int → Option (Int)
 | 0, _, _, _, _ => none
 | k + 1, x0, x3, x4, x5 => if x5 < (x0.length : Int) then (if 0 ≤ x5 then (spec_CheckSum.l0 k x0 (Int.tmod (wrap64 (x3 + (wrap64 (rd x0 x5)))) 65521) (Int.tmod (wrap64 (x4 + (Int.tmod (wrap64 (x3 + (wrap64 (rd x0 x5)))) 65521))) 65521) (wrap64 (x5 + 1))) else (none)) else (some (wrap64 ((wrap64 (65536 * x4)) + x3)))
def spec_CheckSum.f (k : Nat) (l0 : List Int) : Option (Int) := spec_CheckSum.l0 k l0 1 0 0
theorem spec_CheckSum.mono_l : ∀ k, (∀ y0 y1 y2 y3, LeO (spec_CheckSum.l0 k y0 y1 y2 y3) (spec_CheckSum.l0 (k + 1) y0 y1 y2 y3))
 | 0 => fun _ _ _ _ r h => by simp [spec_CheckSum.l0] at h
 | k + 1 => by
  have ih0 := spec_CheckSum.mono_l k
  · intro y0 y1 y2 y3; unfold spec_CheckSum.l0; exact xq15
theorem spec_CheckSum.mono : ∀ a0 k, LeO (spec_CheckSum.f k a0) (spec_CheckSum.f (k + 1) a0) := by
 intro a0 k; have ih0 := spec_CheckSum.mono_l k
 unfold spec_CheckSum.f
 exact xq15
theorem spec_CheckSum.calls (k : Nat) (A0 : Option Addr) (c0 : Nat) (l0 : List Int) (r : Int) (w : World) (hr0 : Kd.C (Kd.int .u8) w A0 l0.length l0) (hc0 : l0.length ≤ c0) (h : spec_CheckSum.f k l0 = some r) :
 Calls Try.prog 132 #[.slice A0 l0.length c0] w fun e w' => e = .returned (.int .i64 r) ∧ Drawn0 w w' := by
 have HR0 := ak hr0; have HC0 := ak hc0; clear hr0 hc0; have H : (spec_CheckSum.l0 k l0 1 0 0) = some r := h; clear h; have H' := ak H; clear H; go_enter Try.func132, Try.ntmps132
 go_wp2
 go_loopg [3, 4, 5] k (fun kq v3 v4 v5 w' => ∃ (x3_1 : Int) (x4_1 : Int) (x5_1 : Int), v3 = .int .i64 x3_1 ∧ v4 = .int .i64 x4_1 ∧ v5 = .int .i64 x5_1 ∧ Aside0 (spec_CheckSum.l0 kq l0 x3_1 x4_1 x5_1 = some r) ∧ Aside0 (kq ≤ k) ∧ Drawn0 w w')
 case atStart => exact ⟨(1), (0), (0), eqA, eqA, eqA, H', ⟨Nat.le_refl _⟩, xq2⟩
 case round =>
  clear H'; obtain ⟨x3_1, x4_1, x5_1, rfl, rfl, rfl, HA, HK1, ⟨m1, rfl⟩⟩ := hrel
  cases gk with
  | zero => exact absurd HA.out (by simp [spec_CheckSum.l0])
  | succ k1 =>
   have H := HA.out; clear HA; simp only [spec_CheckSum.l0] at H
   by_cases c2 : x5_1 < (l0.length : Int); rotate_left
   · rw [if_neg c2] at H; have c2b0 := decide_eq_false c2; clear c2; obtain rfl := Option.some.inj H; go_wp2
     go_ret
     exact ⟨xq3, xq2⟩
   rw [if_pos c2] at H; have c2b0 := decide_eq_true c2; clear c2
   by_cases c3 : 0 ≤ x5_1; rotate_left
   · rw [if_neg c3] at H; exact absurd H (by simp)
   rw [if_pos c3] at H; have c3b0 := decide_eq_true c3; clear c3; have H' := ak H; clear H; have p143 : 0 ≤ (x5_1 : Int) := odA; have q143 : x5_1 < (l0.length : Int) := odA; obtain ⟨ad143, e143, hx143_0⟩ := Kd.at_int HR0.out x5_1 p143 q143
   cases e143
   replace p143 := eq_true p143; replace q143 := eq_true q143; go_wp2
   go_roundg k1
   case measure => have := HK1.out; omega
   case rel => exact ⟨(Int.tmod (wrap64 (x3_1 + (wrap64 (rd l0 x5_1)))) 65521), (Int.tmod (wrap64 (x4_1 + (Int.tmod (wrap64 (x3_1 + (wrap64 (rd l0 x5_1)))) 65521))) 65521), (wrap64 (x5_1 + 1)), eqA, eqA, eqA, H', ⟨xq6⟩, xq2⟩

def spec_EncodeFrame.f (k : Nat) (a0_0 : Int) (a0_1 : Int) (l0_2 : List Int) : Option (List Int) := (spec_FrameOk.f a0_0 a0_1 l0_2).bind fun t145 => (if t145 = true then ((spec_l11Wide.f k a0_1 4).bind fun t149 => ((spec_l01Join.f k (([(a0_0) % 256] : List Int)) t149).bind fun t152 => ((spec_l11Wide.f k (l0_2.length : Int) 2).bind fun t155 => ((spec_l01Join.f k t152 t155).bind fun t158 => ((spec_l01Join.f k t158 l0_2).bind fun t161 => ((spec_l01Join.f k (([199, 77] : List Int)) t161).bind fun t167 => ((spec_CheckSum.f k t161).bind fun t170 => ((spec_l11Wide.f k t170 4).bind fun t171 => ((spec_l01Join.f k t167 t171).bind fun t174 => (some t174)))))))))) else (some ([] : List Int)))
theorem spec_EncodeFrame.mono : ∀ a0 a1 a2 k, LeO (spec_EncodeFrame.f k a0 a1 a2) (spec_EncodeFrame.f (k + 1) a0 a1 a2) := by
 intro a0 a1 a2 k
 unfold spec_EncodeFrame.f
 exact (by repeat' (with_reducible first | exact spec_CheckSum.mono _ _ | exact spec_l01Join.mono _ _ _ | exact spec_l11Wide.mono _ _ _ | exact LeO.refl _ | exact LeO.none _ | refine LeO.ite ?_ ?_ | refine LeO.bind ?_ (fun _ => ?_)))
def spec_EncodeFrame.T3 : Bool × List (List Nat × List Nat) := (true, [([], []), ([0], [0]), ([1], [1]), ([2], [2]), ([], []), ([4], [4]), ([5], [5]), ([3, 6, 6], [3, 6]), ([7, 7, 0, 1, 2, 3, 4, 5, 6, 7], [7])])
def spec_EncodeFrame.B3 : List Nat := [0, 1, 3, 7, 0, 16, 48, 127, 255]
theorem spec_EncodeFrame.tab3 : rtab .any (opsOf Try.f76 3) = spec_EncodeFrame.T3 := by kernel_rfl
theorem spec_EncodeFrame.bits3 : waitsOk spec_EncodeFrame.T3.2 spec_EncodeFrame.B3 = true := by kernel_rfl
def spec_EncodeFrame.T4 : Bool × List (List Nat × List Nat) := (true, [([], []), ([], []), ([1], [1]), ([2], [2]), ([3], [3]), ([0, 4, 4], [0, 4]), ([], []), ([6], [6]), ([5, 7, 5], [5, 7]), ([8, 8, 0, 1, 2, 3, 4, 5, 6, 7, 8], [0, 8])])
def spec_EncodeFrame.B4 : List Nat := [0, 0, 2, 6, 14, 31, 0, 64, 255, 511]
theorem spec_EncodeFrame.tab4 : rtab .any (opsOf Try.f76 4) = spec_EncodeFrame.T4 := by kernel_rfl
theorem spec_EncodeFrame.bits4 : waitsOk spec_EncodeFrame.T4.2 spec_EncodeFrame.B4 = true := by kernel_rfl
theorem spec_EncodeFrame.calls (k : Nat) (a0_0 : Int) (a0_1 : Int) (A0_2 : Option Addr) (c0_2 : Nat) (l0_2 : List Int) (r : List Int) (w : World) (hr0_2 : Kd.C (Kd.int .u8) w A0_2 l0_2.length l0_2) (hc0_2 : l0_2.length ≤ c0_2) (h : spec_EncodeFrame.f k a0_0 a0_1 l0_2 = some r) :
 Calls Try.prog 76 #[.agg #[.int .i64 a0_0, .int .i64 a0_1, .slice A0_2 l0_2.length c0_2]] w fun e w' => ∃ v0_ : Value, e = .returned (v0_) ∧ Kd.R (Kd.int .u8) 5 w' w.heap.size (fun _ => True) v0_ r ∧ Below w.heap.size w w' := by
 have hu109 := Try.underlying109; have HR0_2 := ak hr0_2; have HC0_2 := ak hc0_2; clear hr0_2 hc0_2; have HB := ak (Below.refl w.heap.size w); have H : ((spec_FrameOk.f a0_0 a0_1 l0_2).bind fun t145 => (if t145 = true then ((spec_l11Wide.f k a0_1 4).bind fun t149 => ((spec_l01Join.f k (([(a0_0) % 256] : List Int)) t149).bind fun t152 => ((spec_l11Wide.f k (l0_2.length : Int) 2).bind fun t155 => ((spec_l01Join.f k t152 t155).bind fun t158 => ((spec_l01Join.f k t158 l0_2).bind fun t161 => ((spec_l01Join.f k (([199, 77] : List Int)) t161).bind fun t167 => ((spec_CheckSum.f k t161).bind fun t170 => ((spec_l11Wide.f k t170 4).bind fun t171 => ((spec_l01Join.f k t167 t171).bind fun t174 => (some t174)))))))))) else (some ([] : List Int)))) = some r := h; clear h; replace H := Option.bind_eq_some_iff.mp H; obtain ⟨t145, A20, H⟩ := H; (try dsimp only at H); have A2 := ak A20; clear A20
 by_cases c3 : t145 = true; rotate_left
 · replace c3 := Bool.eq_false_iff.mpr c3; subst c3; have H1 : (some ([] : List Int)) = some r := by rw [if_neg (show ¬ (false = true) by decide)] at H; exact H
   clear H; have H := H1; clear H1; obtain rfl := Option.some.inj H; go_enter Try.func76, Try.ntmps76
   go_wp2_with (first | ((with_reducible refine gate_dst (N := 1) rfl ?_); refine boxA 1 #[.int .i64 a0_0, .int .i64 a0_1, .slice A0_2 l0_2.length c0_2] 109 ?_; intro gb144 hg w40 hbox hb; have BK144 := ak hbox; have GW144 := leA (w := w) hg; have GE144 := leA (w := w) hg; replace HB := bS hb; clear hb hbox hg; obtain ⟨_, _, _, _, _, _⟩ := cel3 BK144) | ((with_reducible refine gate_callee (f := 130) rfl ?_); refine goB 5 Try.func130 #[.agg #[.int .i64 a0_0, .int .i64 a0_1, .slice A0_2 l0_2.length c0_2]] rfl ?_; (with_reducible refine (spec_FrameOk.calls a0_0 a0_1 _ _ l0_2 false _ ?side1 ?side2 A2.out).mono ?_); (case side1 => exact cA (Kd.C_below HR0_2.out HB.out)); (case side2 => exact HC0_2.out); rintro e w42 ⟨rfl, hb⟩; refine ⟨_, rfl, ?_⟩; replace BK144 := bB BK144 hb; replace HB := bS hb; (try clear hb)))
   go_ret
   exact ⟨_, xq1, xq9, belA⟩
 subst c3; have H1 : ((spec_l11Wide.f k a0_1 4).bind fun t149 => ((spec_l01Join.f k (([(a0_0) % 256] : List Int)) t149).bind fun t152 => ((spec_l11Wide.f k (l0_2.length : Int) 2).bind fun t155 => ((spec_l01Join.f k t152 t155).bind fun t158 => ((spec_l01Join.f k t158 l0_2).bind fun t161 => ((spec_l01Join.f k (([199, 77] : List Int)) t161).bind fun t167 => ((spec_CheckSum.f k t161).bind fun t170 => ((spec_l11Wide.f k t170 4).bind fun t171 => ((spec_l01Join.f k t167 t171).bind fun t174 => (some t174)))))))))) = some r := by rw [if_pos rfl] at H; exact H
 clear H; have H := H1; clear H1; obtain ⟨y146, hyq⟩ : ∃ y_ : List Int, y_ = (([(a0_0) % 256] : List Int)) := ⟨_, rfl⟩; replace H : ((spec_l11Wide.f k a0_1 4).bind fun t149 => ((spec_l01Join.f k y146 t149).bind fun t152 => ((spec_l11Wide.f k (l0_2.length : Int) 2).bind fun t155 => ((spec_l01Join.f k t152 t155).bind fun t158 => ((spec_l01Join.f k t158 l0_2).bind fun t161 => ((spec_l01Join.f k (([199, 77] : List Int)) t161).bind fun t167 => ((spec_CheckSum.f k t161).bind fun t170 => ((spec_l11Wide.f k t170 4).bind fun t171 => ((spec_l01Join.f k t167 t171).bind fun t174 => (some t174)))))))))) = some r := by first | (rw [hyq]; with_reducible exact H) | (have H2_ := (Option.bind_some _ _).symm.trans H; rw [hyq]; with_reducible exact H2_) | (have H2_ := (Option.bind_some _ _).symm.trans H; with_reducible exact H2_) | with_reducible exact H | (rw [hyq]; exact H) | exact H
 have Ny146 := ak hyq; clear hyq; replace H := Option.bind_eq_some_iff.mp H; obtain ⟨t149, A40, H⟩ := H; (try dsimp only at H); have A4 := ak A40; clear A40; replace H := Option.bind_eq_some_iff.mp H; obtain ⟨t152, A50, H⟩ := H; (try dsimp only at H); have A5 := ak A50; clear A50; replace H := Option.bind_eq_some_iff.mp H; obtain ⟨t155, A60, H⟩ := H; (try dsimp only at H); have A6 := ak A60; clear A60; replace H := Option.bind_eq_some_iff.mp H; obtain ⟨t158, A70, H⟩ := H; (try dsimp only at H); have A7 := ak A70; clear A70; replace H := Option.bind_eq_some_iff.mp H; obtain ⟨t161, A80, H⟩ := H; (try dsimp only at H); have A8 := ak A80; clear A80; obtain ⟨y164, hyq⟩ : ∃ y_ : List Int, y_ = (([199, 77] : List Int)) := ⟨_, rfl⟩; replace H : ((spec_l01Join.f k y164 t161).bind fun t167 => ((spec_CheckSum.f k t161).bind fun t170 => ((spec_l11Wide.f k t170 4).bind fun t171 => ((spec_l01Join.f k t167 t171).bind fun t174 => (some t174))))) = some r := by first | (rw [hyq]; with_reducible exact H) | (have H2_ := (Option.bind_some _ _).symm.trans H; rw [hyq]; with_reducible exact H2_) | (have H2_ := (Option.bind_some _ _).symm.trans H; with_reducible exact H2_) | with_reducible exact H | (rw [hyq]; exact H) | exact H
 have Ny164 := ak hyq; clear hyq; replace H := Option.bind_eq_some_iff.mp H; obtain ⟨t167, A90, H⟩ := H; (try dsimp only at H); have A9 := ak A90; clear A90; replace H := Option.bind_eq_some_iff.mp H; obtain ⟨t170, A100, H⟩ := H; (try dsimp only at H); have A10 := ak A100; clear A100; replace H := Option.bind_eq_some_iff.mp H; obtain ⟨t171, A110, H⟩ := H; (try dsimp only at H); have A11 := ak A110; clear A110; replace H := Option.bind_eq_some_iff.mp H; obtain ⟨t174, A120, H⟩ := H; (try dsimp only at H); have A12 := ak A120; clear A120; obtain rfl := Option.some.inj H; go_enter Try.func76, Try.ntmps76
 try go_wp2_with (first | ((with_reducible refine gate_dst (N := 1) rfl ?_); refine boxA 1 #[.int .i64 a0_0, .int .i64 a0_1, .slice A0_2 l0_2.length c0_2] 109 ?_; intro gb144 hg w13 hbox hb; have BK144 := ak hbox; have GW144 := leA (w := w) hg; have GE144 := leA (w := w) hg; replace HB := bS hb; clear hb hbox hg; obtain ⟨_, _, _, _, _, _⟩ := cel3 BK144) | ((with_reducible refine gate_callee (f := 130) rfl ?_); refine goB 5 Try.func130 #[.agg #[.int .i64 a0_0, .int .i64 a0_1, .slice A0_2 l0_2.length c0_2]] rfl ?_; (with_reducible refine (spec_FrameOk.calls a0_0 a0_1 _ _ l0_2 true _ ?side1 ?side2 A2.out).mono ?_); (case side1 => exact cA (Kd.C_below HR0_2.out HB.out)); (case side2 => exact HC0_2.out); rintro e w15 ⟨rfl, hb⟩; refine ⟨_, rfl, ?_⟩; replace BK144 := bB BK144 hb; replace HB := bS hb; (try clear hb)))
 replace BK144 := ak (blk_drew BK144.out); replace HB := ak (below_drew1 HB.out); refine start_ (n := 9) (S := fun w' => True) (ds := []) #[false, false, false, false, false, false, false, false, false] (by kernel_rfl) rfl rfl trivial (fun hHeld => ?_); refine with_tabW spec_EncodeFrame.tab3 spec_EncodeFrame.bits3 (fun HT_ HW_ => ?_)
 generalize w15.drew = w16 at BK144 HB hHeld ⊢
 refine pure_ (i := 0) (N := some 7) (v := ?_) (a' := ?_) #[true, false, false, false, false, false, false, false, false] rfl rfl (any_of HT_.out (by kernel_rfl)) (fun _ _ _ h => h) (Or.inl ⟨by rfl, ?_⟩) ?_ ?_
 rotate_left
 · intro w'; go_simp
   with_reducible rfl
 rotate_left
 · simp only [Act.put, sa, sb, sc, i64_w, i32_w]
   rfl
 refine pure_ (i := 4) (N := some 11) (v := ?_) (a' := ?_) #[true, false, false, false, true, false, false, false, false] rfl rfl (any_of HT_.out (by kernel_rfl)) (fun _ _ _ h => h) (Or.inl ⟨by rfl, ?_⟩) ?_ ?_
 rotate_left
 · intro w'; go_simp
   with_reducible rfl
 rotate_left
 · simp only [Act.put, sa, sb, sc, i64_w, i32_w]
   rfl
 refine inv_at [1, 2, 3, 5, 6, 7, 8] (fun a0_ b a w' => ∃ (v147 : Value) (v150 : Value) (v153 : Value) (m8_ : Value), a = putSel a0_ b [(1, 8, .int .i64 a0_0), (2, 9, .int .u8 ((a0_0) % 256)), (3, 10, v147), (5, 12, .int .i64 a0_1), (6, 13, v150), (7, 14, v153), (8, 3, m8_)] ∧ (w'.heap[gb144]? = some (.cells #[.int .i64 a0_0, .int .i64 a0_1, .slice A0_2 l0_2.length c0_2] 109 (0, 0))) ∧ (Below w.heap.size w w') ∧ (b 3 = true → Kd.R (Kd.int .u8) 5 w' w.heap.size (fun _ => True) v147 y146) ∧ (b 6 = true → Kd.R (Kd.int .u8) 5 w' w.heap.size (fun _ => True) v150 t149) ∧ (b 7 = true → Kd.R (Kd.int .u8) 5 w' w.heap.size (fun _ => True) v153 t152) ∧ (b 8 = true → (m8_ : Value) = v153)) HT_.out HW_.out (by kernel_rfl) (by kernel_rfl) ?_ ?_ ?_
 · exact ⟨.bool false, .bool false, .bool false, .bool false, by simp only [putSel, Bool.false_eq_true, if_false], BK144.out, HB.out, fun h_ => absurd h_ (by decide), fun h_ => absurd h_ (by decide), fun h_ => absurd h_ (by decide), fun h_ => absurd h_ (by decide)⟩
 · skip
   clear BK144 HB; refine steps_cons ?_ ?_
   · rintro b a w' ⟨v147, v150, v153, m8_, ha, Q_BK144, Q_HB, Q_HO148, Q_HO151, Q_HO154, Q_X8_⟩ hb_ hon hoff
     refine ⟨_, rfl, fun K hK => ?_⟩
     have e7 : a.tmps[7]? = some (.pointer (some ⟨gb144, 0, none⟩)) := by rw [ha]; exact (putSel_off rfl).trans rfl
     replace ha := ak ha; have BK144 := ak Q_BK144; have HB := ak Q_HB; have hc0_ : w'.cell? ⟨gb144, 0, none⟩ = some (.int .i64 a0_0) := (blk_cell BK144.out 0).trans rfl; have hc1_ : w'.cell? ⟨gb144, 1, none⟩ = some (.int .i64 a0_1) := (blk_cell BK144.out 1).trans rfl; have hc2_ : w'.cell? ⟨gb144, 2, none⟩ = some (.slice A0_2 l0_2.length c0_2) := (blk_cell BK144.out 2).trans rfl; refine value_ (w1 := w') (v := .int .i64 a0_0) (by rfl) rfl ?_ ?_
     · go_simp
       (try simp only [i64_w])
       try rfl
     refine hK.out _ _ ⟨v147, v150, v153, m8_, (by rw [ha.out]; exact putSel_upk 0 hb_ rfl rfl rfl), Q_BK144, Q_HB, fun h0_ => absurd ((hoff 3 (by kernel_rfl)).symm.trans h0_) (by decide), Q_HO151, fun h0_ => absurd ((hoff 7 (by kernel_rfl)).symm.trans h0_) (by decide), fun h0_ => absurd ((hoff 8 (by kernel_rfl)).symm.trans h0_) (by decide)⟩
   refine steps_cons ?_ ?_
   · rintro b a w' ⟨v147, v150, v153, m8_, ha, Q_BK144, Q_HB, Q_HO148, Q_HO151, Q_HO154, Q_X8_⟩ hb_ hon hoff
     refine ⟨_, rfl, fun K hK => ?_⟩
     have e8 : a.tmps[8]? = some (.int .i64 a0_0) := by rw [ha]; exact putSel_on (e := (1, 8, .int .i64 a0_0)) 0 rfl rfl (hon 1 (by kernel_rfl)) rfl
     replace ha := ak ha; have BK144 := ak Q_BK144; have HB := ak Q_HB; refine value_ (w1 := w') (v := .int .u8 ((a0_0) % 256)) (by rfl) rfl ?_ ?_
     · go_simp
       (try simp only [i64_w])
       try rfl
     refine hK.out _ _ ⟨v147, v150, v153, m8_, (by rw [ha.out]; exact putSel_upk 1 hb_ rfl rfl rfl), Q_BK144, Q_HB, fun h0_ => absurd ((hoff 3 (by kernel_rfl)).symm.trans h0_) (by decide), Q_HO151, fun h0_ => absurd ((hoff 7 (by kernel_rfl)).symm.trans h0_) (by decide), fun h0_ => absurd ((hoff 8 (by kernel_rfl)).symm.trans h0_) (by decide)⟩
   refine steps_cons ?_ ?_
   · rintro b a w' ⟨v147, v150, v153, m8_, ha, Q_BK144, Q_HB, Q_HO148, Q_HO151, Q_HO154, Q_X8_⟩ hb_ hon hoff
     refine ⟨_, rfl, fun K hK => ?_⟩
     have e9 : a.tmps[9]? = some (.int .u8 ((a0_0) % 256)) := by rw [ha]; exact putSel_on (e := (2, 9, .int .u8 ((a0_0) % 256))) 1 rfl rfl (hon 2 (by kernel_rfl)) rfl
     replace ha := ak ha; have BK144 := ak Q_BK144; have HB := ak Q_HB; refine Kd.R_lit_step (Kd.int .u8) _ 5 ?hg (N := 10) ?hd (xs := ([(a0_0) % 256] : List Int)) (inner := [.int .u8 ((a0_0) % 256)]) (ok := fun _ => True) (okp := fun _ => True) ?hr ?hp (fun _ hk => hk) trivial (Below.refl _ _) (Nat.le_refl _) (by simp) ?_; (case hd => rfl); (case hg => rfl); (case hr => exact xq4); (case hp => exact (Reps.one (show Kd.M (Kd.int .u8) _ _ _ ((a0_0) % 256) [.int .u8 ((a0_0) % 256)] from rfl) (Reps.none _ _)))
     intro v147 w17 ho18 hb hg_ hnew_; clear hg_ hnew_; (first | rw [← Ny146.out] at ho18 | (simp only [Int.reduceToNat] at ho18; rw [← Ny146.out] at ho18))
     have n0_ := rL ho18; have n1_ := bB BK144 hb; have n2_ := bS hb; have z_HO151 := fun (h0_ : b 6 = true) => (show Kd.R (Kd.int .u8) 5 w17 w.heap.size (fun _ => True) v150 t149 from by first | exact (Kd.R_elder' (rE (Q_HO151 h0_)) (Kd.R_base ho18) hb) | exact Kd.R_mono (Kd.R_elder' (rE (Q_HO151 h0_)) (Kd.R_base ho18) hb) (fun _ h_ => by first | trivial | exact h_ | exact h_.1))
     clear BK144; clear HB; have HO148 := n0_; have BK144 := n1_; have HB := n2_; clear n0_ n1_ n2_; clear hb ho18; refine hK.out _ _ ⟨v147, v150, v153, m8_, (by rw [ha.out]; exact putSel_upk 2 hb_ rfl rfl rfl), blkA, belA, fun _ => (rF HO148), z_HO151, fun h0_ => absurd ((hoff 7 (by kernel_rfl)).symm.trans h0_) (by decide), fun h0_ => absurd ((hoff 8 (by kernel_rfl)).symm.trans h0_) (by decide)⟩
   refine steps_cons ?_ ?_
   · rintro b a w' ⟨v147, v150, v153, m8_, ha, Q_BK144, Q_HB, Q_HO148, Q_HO151, Q_HO154, Q_X8_⟩ hb_ hon hoff
     refine ⟨_, rfl, fun K hK => ?_⟩
     have e11 : a.tmps[11]? = some (.pointer (some ⟨gb144, 1, none⟩)) := by rw [ha]; exact (putSel_off rfl).trans rfl
     replace ha := ak ha; have BK144 := ak Q_BK144; have HB := ak Q_HB; have hc0_ : w'.cell? ⟨gb144, 0, none⟩ = some (.int .i64 a0_0) := (blk_cell BK144.out 0).trans rfl; have hc1_ : w'.cell? ⟨gb144, 1, none⟩ = some (.int .i64 a0_1) := (blk_cell BK144.out 1).trans rfl; have hc2_ : w'.cell? ⟨gb144, 2, none⟩ = some (.slice A0_2 l0_2.length c0_2) := (blk_cell BK144.out 2).trans rfl; refine value_ (w1 := w') (v := .int .i64 a0_1) (by rfl) rfl ?_ ?_
     · go_simp
       (try simp only [i64_w])
       try rfl
     refine hK.out _ _ ⟨v147, v150, v153, m8_, (by rw [ha.out]; exact putSel_upk 3 hb_ rfl rfl rfl), Q_BK144, Q_HB, Q_HO148, fun h0_ => absurd ((hoff 6 (by kernel_rfl)).symm.trans h0_) (by decide), fun h0_ => absurd ((hoff 7 (by kernel_rfl)).symm.trans h0_) (by decide), fun h0_ => absurd ((hoff 8 (by kernel_rfl)).symm.trans h0_) (by decide)⟩
   refine steps_cons ?_ ?_
   · rintro b a w' ⟨v147, v150, v153, m8_, ha, Q_BK144, Q_HB, Q_HO148, Q_HO151, Q_HO154, Q_X8_⟩ hb_ hon hoff
     refine ⟨_, rfl, fun K hK => ?_⟩
     have e12 : a.tmps[12]? = some (.int .i64 a0_1) := by rw [ha]; exact putSel_on (e := (5, 12, .int .i64 a0_1)) 3 rfl rfl (hon 5 (by kernel_rfl)) rfl
     replace ha := ak ha; have BK144 := ak Q_BK144; have HB := ak Q_HB; refine goes_ Try.func131 (by kernel_rfl) rfl #[.int .i64 a0_1, .int .i64 4] (by rfl) rfl rfl (by first | (simp only [List.map_toArray, List.map_cons, List.map_nil, Act.eval, Array.getD_eq_getD_getElem?, Option.getD_some, e12]; done) | (simp only [List.map_toArray, List.map_cons, List.map_nil, Act.eval, Array.getD_eq_getD_getElem?, Option.getD_some, e12]; rfl)) ?_
     with_reducible refine (spec_l11Wide.calls k a0_1 4 t149 _ A4.out).mono ?_
     rintro e w17 ⟨v150, rfl, ho0, hb⟩
     refine ⟨_, rfl, ?_⟩
     have n0_ := rL ho0; have n1_ := bB BK144 hb; have n2_ := bS hb; have z_HO148 := fun (h0_ : b 3 = true) => (show Kd.R (Kd.int .u8) 5 w17 w.heap.size (fun _ => True) v147 y146 from by first | exact (Kd.R_elder' (rE (Q_HO148 h0_)) (Kd.R_base ho0) hb) | exact Kd.R_mono (Kd.R_elder' (rE (Q_HO148 h0_)) (Kd.R_base ho0) hb) (fun _ h_ => by first | trivial | exact h_ | exact h_.1))
     clear BK144; clear HB; have HO151 := n0_; have BK144 := n1_; have HB := n2_; clear n0_ n1_ n2_; (try clear hb ho0); refine hK.out _ _ ⟨v147, v150, v153, m8_, (by rw [ha.out]; exact putSel_upk 4 hb_ rfl rfl rfl), blkA, belA, z_HO148, fun _ => (rF HO151), fun h0_ => absurd ((hoff 7 (by kernel_rfl)).symm.trans h0_) (by decide), fun h0_ => absurd ((hoff 8 (by kernel_rfl)).symm.trans h0_) (by decide)⟩
   refine steps_cons ?_ ?_
   · rintro b a w' ⟨v147, v150, v153, m8_, ha, Q_BK144, Q_HB, Q_HO148, Q_HO151, Q_HO154, Q_X8_⟩ hb_ hon hoff
     refine ⟨_, rfl, fun K hK => ?_⟩
     have e10 : a.tmps[10]? = some (v147) := by rw [ha]; exact putSel_on (e := (3, 10, v147)) 2 rfl rfl (hon 3 (by kernel_rfl)) rfl
     have e13 : a.tmps[13]? = some (v150) := by rw [ha]; exact putSel_on (e := (6, 13, v150)) 4 rfl rfl (hon 6 (by kernel_rfl)) rfl
     replace ha := ak ha; have BK144 := ak Q_BK144; have HB := ak Q_HB; have HO148 := ak (Q_HO148 (hon 3 (by kernel_rfl))); have HO151 := ak (Q_HO151 (hon 6 (by kernel_rfl))); obtain ⟨Ao21, co21, eo21⟩ := Kd.R_slice HO148.out; (first | subst eo21 | (injection eo21 with f1_ f2_ f3_; have f4_ := f1_.symm; have f5_ := f3_.symm; clear f1_ f2_ f3_; subst f4_; subst f5_))
     obtain ⟨Ao22, co22, eo22⟩ := Kd.R_slice HO151.out; (first | subst eo22 | (injection eo22 with f1_ f2_ f3_; have f4_ := f1_.symm; have f5_ := f3_.symm; clear f1_ f2_ f3_; subst f4_; subst f5_))
     refine goes_ Try.func75 (by kernel_rfl) rfl #[.slice Ao21 y146.length co21, .slice Ao22 t149.length co22] (by rfl) rfl rfl (by first | (simp only [List.map_toArray, List.map_cons, List.map_nil, Act.eval, Array.getD_eq_getD_getElem?, Option.getD_some, e10, e13]; done) | (simp only [List.map_toArray, List.map_cons, List.map_nil, Act.eval, Array.getD_eq_getD_getElem?, Option.getD_some, e10, e13]; rfl)) ?_
     with_reducible refine (spec_l01Join.calls k _ _ y146 _ _ t149 t152 _ ?side1 ?side2 ?side3 ?side4 A5.out).mono ?_
     (case side1 => exact cA ((Kd.R_reads' HO148.out).2.2))
     (case side2 => exact (Kd.R_reads' HO148.out).2.1)
     (case side3 => exact cA ((Kd.R_reads' HO151.out).2.2))
     (case side4 => exact (Kd.R_reads' HO151.out).2.1)
     rintro e w23 ⟨v153, rfl, ho0, hb⟩
     refine ⟨_, rfl, ?_⟩
     have HO154 := rL (Kd.R_new' (Kd.R_new' ho0 (Kd.R_lt (rF HO148))) (Kd.R_lt (rF HO151))); replace HO148 := ak (Kd.R_elder' (rF HO148) (Kd.R_base ho0) hb); replace HO151 := ak (Kd.R_elder' (rF HO151) (Kd.R_base ho0) hb); replace BK144 := bB BK144 hb; replace HB := bS hb; (try clear hb ho0); refine hK.out _ _ ⟨.slice Ao21 y146.length co21, .slice Ao22 t149.length co22, v153, m8_, (by rw [ha.out]; exact putSel_upk 5 hb_ rfl rfl rfl), blkA, belA, fun _ => (rF HO148), fun _ => (rF HO151), fun _ => (by (with_reducible repeat (first | apply Kd.R_alloc | apply Kd.R_drewN | apply Kd.R_drew)); first | exact Kd.R_mono HO154.out (fun _ hk => ⟨hk.1.2, hk.2⟩) | exact Kd.R_mono HO154.out (fun _ _ => trivial)), fun h0_ => absurd ((hoff 8 (by kernel_rfl)).symm.trans h0_) (by decide)⟩
   refine steps_cons ?_ ?_
   · rintro b a w' ⟨v147, v150, v153, m8_, ha, Q_BK144, Q_HB, Q_HO148, Q_HO151, Q_HO154, Q_X8_⟩ hb_ hon hoff
     refine ⟨_, rfl, fun K hK => ?_⟩
     have e14 : a.tmps[14]? = some (v153) := by rw [ha]; exact putSel_on (e := (7, 14, v153)) 5 rfl rfl (hon 7 (by kernel_rfl)) rfl
     replace ha := ak ha; have BK144 := ak Q_BK144; have HB := ak Q_HB; have HO148 := ak (Q_HO148 (hon 3 (by kernel_rfl))); have HO151 := ak (Q_HO151 (hon 6 (by kernel_rfl))); have HO154 := ak (Q_HO154 (hon 7 (by kernel_rfl))); refine value_ (w1 := w') (v := v153) (by rfl) rfl ?_ ?_
     · go_simp
       (try simp only [i64_w])
       try rfl
     refine hK.out _ _ ⟨v147, v150, v153, (v153), (by rw [ha.out]; exact putSel_upk 6 hb_ rfl rfl rfl), Q_BK144, Q_HB, Q_HO148, Q_HO151, Q_HO154, fun _ => rfl⟩
   exact steps_nil
 rintro b a w23 hall ⟨v147, v150, v153, m8_, ha, Q_BK144, Q_HB, Q_HO148, Q_HO151, Q_HO154, Q_X8_⟩
 clear BK144 HB; have hb1_ := hall 1 (by kernel_rfl); have hb2_ := hall 2 (by kernel_rfl); have hb3_ := hall 3 (by kernel_rfl); have hb5_ := hall 5 (by kernel_rfl); have hb6_ := hall 6 (by kernel_rfl); have hb7_ := hall 7 (by kernel_rfl); have hb8_ := hall 8 (by kernel_rfl); subst ha; obtain rfl := Q_X8_ hb8_; simp only [putSel, hb1_, hb2_, hb3_, hb5_, hb6_, hb7_, hb8_, if_true, Act.put, sa, sb, sc]
 have BK144 := ak Q_BK144; clear Q_BK144; have HB := ak Q_HB; clear Q_HB; have HO148 := ak (Q_HO148 hb3_); clear Q_HO148; have HO151 := ak (Q_HO151 hb6_); clear Q_HO151; have HO154 := ak (Q_HO154 hb7_); clear Q_HO154; clear hall hb1_ hb2_ hb3_ hb5_ hb6_ hb7_ hb8_; try go_wp2
 replace HO148 := ak (Kd.R_drew HO148.out); replace HO151 := ak (Kd.R_drew HO151.out); replace HO154 := ak (Kd.R_drew HO154.out); replace BK144 := ak (blk_drew BK144.out); replace HB := ak (below_drew1 HB.out); refine start_ (n := 10) (S := fun w' => w'.cell? ⟨gb144, 0, none⟩ = some (.int .i64 a0_0) ∧ w'.cell? ⟨gb144, 1, none⟩ = some (.int .i64 a0_1) ∧ w'.cell? ⟨gb144, 2, none⟩ = some (.slice A0_2 l0_2.length c0_2)) (ds := []) #[false, false, false, false, false, false, false, false, false, false] (by kernel_rfl) rfl rfl ⟨(blk_cell BK144.out 0).trans rfl, (blk_cell BK144.out 1).trans rfl, (blk_cell BK144.out 2).trans rfl⟩ (fun hHeld => ?_); refine with_tabW spec_EncodeFrame.tab4 spec_EncodeFrame.bits4 (fun HT_ HW_ => ?_)
 generalize w23.drew = w24 at HO148 HO151 HO154 BK144 HB hHeld ⊢
 refine pure_ (i := 0) (N := some 15) (v := ?_) (a' := ?_) #[true, false, false, false, false, false, false, false, false, false] rfl rfl (any_of HT_.out (by kernel_rfl)) (fun _ _ _ h => h) (Or.inl ⟨by rfl, ?_⟩) ?_ ?_
 rotate_left
 · intro w'; go_simp
   with_reducible rfl
 rotate_left
 · simp only [Act.put, sa, sb, sc, i64_w, i32_w]
   rfl
 refine pure_ (i := 1) (N := some 16) (v := ?_) (a' := ?_) #[true, true, false, false, false, false, false, false, false, false] rfl rfl (any_of HT_.out (by kernel_rfl)) (fun _ _ _ h => h) (Or.inl ⟨by rfl, ?_⟩) ?_ ?_
 rotate_left
 · intro w'; go_simp
   with_reducible rfl
 rotate_left
 · simp only [Act.put, sa, sb, sc, i64_w, i32_w]
   rfl
 refine pure_ (i := 6) (N := some 21) (v := ?_) (a' := ?_) #[true, true, false, false, false, false, true, false, false, false] rfl rfl (any_of HT_.out (by kernel_rfl)) (fun _ _ _ h => h) (Or.inl ⟨by rfl, ?_⟩) ?_ ?_
 rotate_left
 · intro w'; go_simp
   with_reducible rfl
 rotate_left
 · simp only [Act.put, sa, sb, sc, i64_w, i32_w]
   rfl
 refine take_ (i := 2) (N := some 17) (v := ?_) (a' := ?_) #[true, true, true, false, false, false, true, false, false, false] rfl rfl (take_ofW HT_.out HW_.out (by kernel_rfl)) (fun _ _ _ h => h) (Or.inl ⟨by rfl, ?_⟩) hHeld ?_ ?_
 rotate_left
 · rintro w' ⟨s0, s1, s2⟩
   go_simp
   with_reducible rfl
 rotate_left
 · simp only [Act.put, sa, sb, sc, i64_w, i32_w]
   rfl
 refine pure_ (i := 3) (N := some 18) (v := ?_) (a' := ?_) #[true, true, true, true, false, false, true, false, false, false] rfl rfl (any_of HT_.out (by kernel_rfl)) (fun _ _ _ h => h) (Or.inl ⟨by rfl, ?_⟩) ?_ ?_
 rotate_left
 · intro w'; go_simp
   with_reducible rfl
 rotate_left
 · simp only [Act.put, sa, sb, sc, i64_w, i32_w]
   rfl
 refine take_ (i := 7) (N := some 22) (v := ?_) (a' := ?_) #[true, true, true, true, false, false, true, true, false, false] rfl rfl (take_ofW HT_.out HW_.out (by kernel_rfl)) (fun _ _ _ h => h) (Or.inl ⟨by rfl, ?_⟩) hHeld ?_ ?_
 rotate_left
 · rintro w' ⟨s0, s1, s2⟩
   go_simp
   with_reducible rfl
 rotate_left
 · simp only [Act.put, sa, sb, sc, i64_w, i32_w]
   rfl
 refine one_ (i := 4) (N := some 19) #[true, true, true, true, true, false, true, true, false, false] rfl rfl (one_of HT_.out (by kernel_rfl)) (by decide) (fun K hK => ?_)
 refine goes_ Try.func131 (by kernel_rfl) rfl #[.int .i64 (l0_2.length : Int), .int .i64 2] (by rfl) rfl rfl xq8 ?_
 with_reducible refine (spec_l11Wide.calls k (l0_2.length : Int) 2 t155 _ A6.out).mono ?_
 rintro e w25 ⟨v156, rfl, ho0, hb⟩
 refine ⟨_, rfl, ?_⟩
 have HO157 := rL (Kd.R_new' (Kd.R_new' (Kd.R_new' ho0 (Kd.R_lt (rF HO148))) (Kd.R_lt (rF HO151))) (Kd.R_lt (rF HO154))); replace HO148 := ak (Kd.R_elder' (rF HO148) (Kd.R_base ho0) hb); replace HO151 := ak (Kd.R_elder' (rF HO151) (Kd.R_base ho0) hb); replace HO154 := ak (Kd.R_elder' (rF HO154) (Kd.R_base ho0) hb); replace BK144 := bB BK144 hb; replace HB := bS hb; (try clear hb ho0); obtain ⟨Ao26, co26, eo26⟩ := Kd.R_slice HO154.out; (first | subst eo26 | (injection eo26 with f1_ f2_ f3_; have f4_ := f1_.symm; have f5_ := f3_.symm; clear f1_ f2_ f3_; subst f4_; subst f5_))
 obtain ⟨Ao27, co27, eo27⟩ := Kd.R_slice HO157.out; (first | subst eo27 | (injection eo27 with f1_ f2_ f3_; have f4_ := f1_.symm; have f5_ := f3_.symm; clear f1_ f2_ f3_; subst f4_; subst f5_))
 refine hK.out _ _ ⟨(blk_cell BK144.out 0).trans rfl, (blk_cell BK144.out 1).trans rfl, (blk_cell BK144.out 2).trans rfl⟩ (fun hHeld => ?_)
 clear hK K; refine norm_ (a' := ?_) ?_ ?_
 rotate_left
 · show Act.put _ (some 19) _ = _
   simp only [Act.put, sa, sb, sc, i64_w, i32_w]
   rfl
 refine one_ (i := 5) (N := some 20) #[true, true, true, true, true, true, true, true, false, false] rfl rfl (one_of HT_.out (by kernel_rfl)) (by decide) (fun K hK => ?_)
 refine goes_ Try.func75 (by kernel_rfl) rfl #[.slice Ao26 t152.length co26, .slice Ao27 t155.length co27] (by rfl) rfl rfl xq8 ?_
 with_reducible refine (spec_l01Join.calls k _ _ t152 _ _ t155 t158 _ ?side1 ?side2 ?side3 ?side4 A7.out).mono ?_
 (case side1 => exact cA ((Kd.R_reads' HO154.out).2.2))
 (case side2 => exact (Kd.R_reads' HO154.out).2.1)
 (case side3 => exact cA ((Kd.R_reads' HO157.out).2.2))
 (case side4 => exact (Kd.R_reads' HO157.out).2.1)
 rintro e w28 ⟨v159, rfl, ho0, hb⟩
 refine ⟨_, rfl, ?_⟩
 have HO160 := rL (Kd.R_new' (Kd.R_new' (Kd.R_new' (Kd.R_new' ho0 (Kd.R_lt (rF HO148))) (Kd.R_lt (rF HO151))) (Kd.R_lt (rF HO154))) (Kd.R_lt (rF HO157))); replace HO148 := ak (Kd.R_elder' (rF HO148) (Kd.R_base ho0) hb); replace HO151 := ak (Kd.R_elder' (rF HO151) (Kd.R_base ho0) hb); replace HO154 := ak (Kd.R_elder' (rF HO154) (Kd.R_base ho0) hb); replace HO157 := ak (Kd.R_elder' (rF HO157) (Kd.R_base ho0) hb); replace BK144 := bB BK144 hb; replace HB := bS hb; (try clear hb ho0); obtain ⟨Ao29, co29, eo29⟩ := Kd.R_slice HO160.out; (first | subst eo29 | (injection eo29 with f1_ f2_ f3_; have f4_ := f1_.symm; have f5_ := f3_.symm; clear f1_ f2_ f3_; subst f4_; subst f5_))
 refine hK.out _ _ ⟨(blk_cell BK144.out 0).trans rfl, (blk_cell BK144.out 1).trans rfl, (blk_cell BK144.out 2).trans rfl⟩ (fun hHeld => ?_)
 clear hK K; refine norm_ (a' := ?_) ?_ ?_
 rotate_left
 · show Act.put _ (some 20) _ = _
   simp only [Act.put, sa, sb, sc, i64_w, i32_w]
   rfl
 refine one_ (i := 8) (N := some 23) #[true, true, true, true, true, true, true, true, true, false] rfl rfl (one_of HT_.out (by kernel_rfl)) (by decide) (fun K hK => ?_)
 refine goes_ Try.func75 (by kernel_rfl) rfl #[.slice Ao29 t158.length co29, .slice A0_2 l0_2.length c0_2] (by rfl) rfl rfl xq8 ?_
 with_reducible refine (spec_l01Join.calls k _ _ t158 _ _ l0_2 t161 _ ?side1 ?side2 ?side3 ?side4 A8.out).mono ?_
 (case side1 => exact cA ((Kd.R_reads' HO160.out).2.2))
 (case side2 => exact (Kd.R_reads' HO160.out).2.1)
 (case side3 => exact cA (Kd.C_below HR0_2.out HB.out))
 (case side4 => exact HC0_2.out)
 rintro e w30 ⟨v162, rfl, ho0, hb⟩
 refine ⟨_, rfl, ?_⟩
 have HO163 := rL (Kd.R_new' (Kd.R_new' (Kd.R_new' (Kd.R_new' (Kd.R_new' ho0 (Kd.R_lt (rF HO148))) (Kd.R_lt (rF HO151))) (Kd.R_lt (rF HO154))) (Kd.R_lt (rF HO157))) (Kd.R_lt (rF HO160))); replace HO148 := ak (Kd.R_elder' (rF HO148) (Kd.R_base ho0) hb); replace HO151 := ak (Kd.R_elder' (rF HO151) (Kd.R_base ho0) hb); replace HO154 := ak (Kd.R_elder' (rF HO154) (Kd.R_base ho0) hb); replace HO157 := ak (Kd.R_elder' (rF HO157) (Kd.R_base ho0) hb); replace HO160 := ak (Kd.R_elder' (rF HO160) (Kd.R_base ho0) hb); replace BK144 := bB BK144 hb; replace HB := bS hb; (try clear hb ho0); refine hK.out _ _ ⟨(blk_cell BK144.out 0).trans rfl, (blk_cell BK144.out 1).trans rfl, (blk_cell BK144.out 2).trans rfl⟩ (fun hHeld => ?_)
 clear hK K; refine norm_ (a' := ?_) ?_ ?_
 rotate_left
 · show Act.put _ (some 23) _ = _
   simp only [Act.put, sa, sb, sc, i64_w, i32_w]
   rfl
 refine pure_ (i := 9) (N := some 3) (v := ?_) (a' := ?_) #[true, true, true, true, true, true, true, true, true, true] rfl rfl (any_of HT_.out (by kernel_rfl)) (fun _ _ _ h => h) (Or.inl ⟨by rfl, ?_⟩) ?_ ?_
 rotate_left
 · intro w'; go_simp
   with_reducible rfl
 rotate_left
 · simp only [Act.put, sa, sb, sc, i64_w, i32_w]
   rfl
 refine done_ (done_of HT_.out (by kernel_rfl)) ?_
 try go_wp2_with (first | ((with_reducible refine gate_dst (N := 24) rfl ?_); refine Kd.R_lit (Kd.int .u8) _ 5 ?hg (N := 24) ?hd (xs := ([199, 77] : List Int)) (inner := [.int .u8 199, .int .u8 77]) (ok := fun _ => True) (okp := fun _ => True) ?hr ?hp (fun _ hk => hk) trivial (Below.refl _ _) (Nat.le_refl _) (by simp) ?_; (case hd => rfl); (case hg => rfl); (case hr => exact xq4); (case hp => exact (Reps.one (show Kd.M (Kd.int .u8) _ _ _ 199 [.int .u8 199] from rfl) (Reps.one (show Kd.M (Kd.int .u8) _ _ _ 77 [.int .u8 77] from rfl) (Reps.none _ _)))); intro v165 w31 ho32 hb hg_ hnew_; clear hg_ hnew_; (first | rw [← Ny164.out] at ho32 | (simp only [Int.reduceToNat] at ho32; rw [← Ny164.out] at ho32)); have HO166 := ak (Kd.R_lower (Kd.R_new' (Kd.R_new' (Kd.R_new' (Kd.R_new' (Kd.R_new' (Kd.R_new' ho32 (Kd.R_lt (rF HO148))) (Kd.R_lt (rF HO151))) (Kd.R_lt (rF HO154))) (Kd.R_lt (rF HO157))) (Kd.R_lt (rF HO160))) (Kd.R_lt (rF HO163))) (below_size belA)); replace HO148 := ak (Kd.R_elder' (rF HO148) (Kd.R_base ho32) hb); replace HO151 := ak (Kd.R_elder' (rF HO151) (Kd.R_base ho32) hb); replace HO154 := ak (Kd.R_elder' (rF HO154) (Kd.R_base ho32) hb); replace HO157 := ak (Kd.R_elder' (rF HO157) (Kd.R_base ho32) hb); replace HO160 := ak (Kd.R_elder' (rF HO160) (Kd.R_base ho32) hb); replace HO163 := ak (Kd.R_elder' (rF HO163) (Kd.R_base ho32) hb); replace BK144 := bB BK144 hb; replace HB := bS hb; clear hb ho32; obtain ⟨Ao33, co33, eo33⟩ := Kd.R_slice HO166.out; subst eo33; obtain ⟨Ao34, co34, eo34⟩ := Kd.R_slice HO163.out; subst eo34) | ((with_reducible refine gate_callee (f := 75) rfl ?_); refine goB 26 Try.func75 #[.slice Ao33 y164.length co33, .slice Ao34 t161.length co34] rfl ?_; (with_reducible refine (spec_l01Join.calls k _ _ y164 _ _ t161 t167 _ ?side1 ?side2 ?side3 ?side4 A9.out).mono ?_); (case side1 => exact cA ((Kd.R_reads' HO166.out).2.2)); (case side2 => exact (Kd.R_reads' HO166.out).2.1); (case side3 => exact cA ((Kd.R_reads' HO163.out).2.2)); (case side4 => exact (Kd.R_reads' HO163.out).2.1); rintro e w35 ⟨v168, rfl, ho0, hb⟩; refine ⟨_, rfl, ?_⟩; have HO169 := ak (Kd.R_lower (Kd.R_new' (Kd.R_new' (Kd.R_new' (Kd.R_new' (Kd.R_new' (Kd.R_new' (Kd.R_new' ho0 (Kd.R_lt (rF HO148))) (Kd.R_lt (rF HO151))) (Kd.R_lt (rF HO154))) (Kd.R_lt (rF HO157))) (Kd.R_lt (rF HO160))) (Kd.R_lt (rF HO163))) (Kd.R_lt (rF HO166))) (below_size belA)); replace HO148 := ak (Kd.R_elder' (rF HO148) (Kd.R_base ho0) hb); replace HO151 := ak (Kd.R_elder' (rF HO151) (Kd.R_base ho0) hb); replace HO154 := ak (Kd.R_elder' (rF HO154) (Kd.R_base ho0) hb); replace HO157 := ak (Kd.R_elder' (rF HO157) (Kd.R_base ho0) hb); replace HO160 := ak (Kd.R_elder' (rF HO160) (Kd.R_base ho0) hb); replace HO163 := ak (Kd.R_elder' (rF HO163) (Kd.R_base ho0) hb); replace HO166 := ak (Kd.R_elder' (rF HO166) (Kd.R_base ho0) hb); replace BK144 := bB BK144 hb; replace HB := bS hb; (try clear hb ho0)) | ((with_reducible refine gate_callee (f := 132) rfl ?_); refine goB 28 Try.func132 #[.slice Ao34 t161.length co34] rfl ?_; (with_reducible refine (spec_CheckSum.calls k _ _ t161 t170 _ ?side1 ?side2 A10.out).mono ?_); (case side1 => exact cA ((Kd.R_reads' HO163.out).2.2)); (case side2 => exact (Kd.R_reads' HO163.out).2.1); rintro e w' ⟨rfl, ⟨nd, rfl⟩⟩; refine ⟨_, rfl, ?_⟩) | ((with_reducible refine gate_callee (f := 131) rfl ?_); refine goB 29 Try.func131 #[.int .i64 t170, .int .i64 4] rfl ?_; (with_reducible refine (spec_l11Wide.calls k t170 4 t171 _ A11.out).mono ?_); rintro e w36 ⟨v172, rfl, ho0, hb⟩; refine ⟨_, rfl, ?_⟩; have HO173 := ak (Kd.R_lower (Kd.R_new' (Kd.R_new' (Kd.R_new' (Kd.R_new' (Kd.R_new' (Kd.R_new' (Kd.R_new' (Kd.R_new' ho0 (Kd.R_lt (rF HO148))) (Kd.R_lt (rF HO151))) (Kd.R_lt (rF HO154))) (Kd.R_lt (rF HO157))) (Kd.R_lt (rF HO160))) (Kd.R_lt (rF HO163))) (Kd.R_lt (rF HO166))) (Kd.R_lt (rF HO169))) (below_size belA)); replace HO148 := ak (Kd.R_elder' (rF HO148) (Kd.R_base ho0) hb); replace HO151 := ak (Kd.R_elder' (rF HO151) (Kd.R_base ho0) hb); replace HO154 := ak (Kd.R_elder' (rF HO154) (Kd.R_base ho0) hb); replace HO157 := ak (Kd.R_elder' (rF HO157) (Kd.R_base ho0) hb); replace HO160 := ak (Kd.R_elder' (rF HO160) (Kd.R_base ho0) hb); replace HO163 := ak (Kd.R_elder' (rF HO163) (Kd.R_base ho0) hb); replace HO166 := ak (Kd.R_elder' (rF HO166) (Kd.R_base ho0) hb); replace HO169 := ak (Kd.R_elder' (rF HO169) (Kd.R_base ho0) hb); replace BK144 := bB BK144 hb; replace HB := bS hb; (try clear hb ho0); obtain ⟨Ao37, co37, eo37⟩ := Kd.R_slice HO169.out; subst eo37; obtain ⟨Ao38, co38, eo38⟩ := Kd.R_slice HO173.out; subst eo38) | ((with_reducible refine gate_callee (f := 75) rfl ?_); refine goB 30 Try.func75 #[.slice Ao37 t167.length co37, .slice Ao38 t171.length co38] rfl ?_; (with_reducible refine (spec_l01Join.calls k _ _ t167 _ _ t171 t174 _ ?side1 ?side2 ?side3 ?side4 A12.out).mono ?_); (case side1 => exact cA ((Kd.R_reads' HO169.out).2.2)); (case side2 => exact (Kd.R_reads' HO169.out).2.1); (case side3 => exact cA ((Kd.R_reads' HO173.out).2.2)); (case side4 => exact (Kd.R_reads' HO173.out).2.1); rintro e w39 ⟨v175, rfl, ho0, hb⟩; refine ⟨_, rfl, ?_⟩; have HO176 := ak (Kd.R_lower (Kd.R_new' (Kd.R_new' (Kd.R_new' (Kd.R_new' (Kd.R_new' (Kd.R_new' (Kd.R_new' (Kd.R_new' (Kd.R_new' ho0 (Kd.R_lt (rF HO148))) (Kd.R_lt (rF HO151))) (Kd.R_lt (rF HO154))) (Kd.R_lt (rF HO157))) (Kd.R_lt (rF HO160))) (Kd.R_lt (rF HO163))) (Kd.R_lt (rF HO166))) (Kd.R_lt (rF HO169))) (Kd.R_lt (rF HO173))) (below_size belA)); replace HO148 := ak (Kd.R_elder' (rF HO148) (Kd.R_base ho0) hb); replace HO151 := ak (Kd.R_elder' (rF HO151) (Kd.R_base ho0) hb); replace HO154 := ak (Kd.R_elder' (rF HO154) (Kd.R_base ho0) hb); replace HO157 := ak (Kd.R_elder' (rF HO157) (Kd.R_base ho0) hb); replace HO160 := ak (Kd.R_elder' (rF HO160) (Kd.R_base ho0) hb); replace HO163 := ak (Kd.R_elder' (rF HO163) (Kd.R_base ho0) hb); replace HO166 := ak (Kd.R_elder' (rF HO166) (Kd.R_base ho0) hb); replace HO169 := ak (Kd.R_elder' (rF HO169) (Kd.R_base ho0) hb); replace HO173 := ak (Kd.R_elder' (rF HO173) (Kd.R_base ho0) hb); replace BK144 := bB BK144 hb; replace HB := bS hb; (try clear hb ho0)))
 go_ret
 exact ⟨_, xq1, by (with_reducible repeat (first | apply Kd.R_alloc | apply Kd.R_drewN | apply Kd.R_drew)); exact Kd.R_mono HO176.out (fun _ hk => trivial), belA⟩

mutual
def spec_PutNumber.j0 : Nat → List Int → Int → Option (List Int)
 | 0, _, _ => none
 | k + 1, x3, x4 => spec_PutNumber.l0 k x3 x4
def spec_PutNumber.l0 : Nat → List Int → Int → Option (List Int)
 | 0, _, _ => none
 | k + 1, x3, x4 => if x4 ≥ 128 then (if x3.length < 140737488355328 then (spec_PutNumber.l0 k (x3 ++ [(wrap64 (128 + (Int.tmod x4 128))) % 256]) (wrap64 (Int.tdiv x4 128))) else (none)) else (if x3.length < 140737488355328 then (some (x3 ++ [(x4) % 256])) else (none))
end
def spec_PutNumber.f (k : Nat) (a0 : Int) : Option (List Int) := (some (([] : List Int) : List Int)).bind fun y177 => ((spec_l01In.f a0 (-1099511627776) 1099511627776).bind fun t180 => (if t180 = true then (if a0 < 0 then (spec_PutNumber.j0 k y177 (wrap64 ((wrap64 ((-2) * a0)) - 1))) else (spec_PutNumber.j0 k y177 (wrap64 (2 * a0)))) else (some ([] : List Int))))
theorem spec_PutNumber.mono_l : ∀ k, (∀ y0 y1, LeO (spec_PutNumber.j0 k y0 y1) (spec_PutNumber.j0 (k + 1) y0 y1)) ∧ (∀ y0 y1, LeO (spec_PutNumber.l0 k y0 y1) (spec_PutNumber.l0 (k + 1) y0 y1))
 | 0 => ⟨fun _ _ r h => by simp [spec_PutNumber.j0] at h, fun _ _ r h => by simp [spec_PutNumber.l0] at h⟩
 | k + 1 => by
  obtain ⟨ih0, ih1⟩ := spec_PutNumber.mono_l k; refine ⟨?_, ?_⟩
  · intro y0 y1; unfold spec_PutNumber.j0; exact xq24
  · intro y0 y1; unfold spec_PutNumber.l0; exact xq24
theorem spec_PutNumber.mono : ∀ a0 k, LeO (spec_PutNumber.f k a0) (spec_PutNumber.f (k + 1) a0) := by
 intro a0 k; obtain ⟨ih0, ih1⟩ := spec_PutNumber.mono_l k
 unfold spec_PutNumber.f
 exact xq24
theorem spec_PutNumber.calls (k : Nat) (a0 : Int) (r : List Int) (w : World) (h : spec_PutNumber.f k a0 = some r) :
 Calls Try.prog 133 #[.int .i64 a0] w fun e w' => ∃ v0_ : Value, e = .returned (v0_) ∧ Kd.R (Kd.int .u8) 5 w' w.heap.size (fun _ => True) v0_ r ∧ Below w.heap.size w w' := by
 have HB := ak (Below.refl w.heap.size w); have H : ((some (([] : List Int) : List Int)).bind fun y177 => ((spec_l01In.f a0 (-1099511627776) 1099511627776).bind fun t180 => (if t180 = true then (if a0 < 0 then (spec_PutNumber.j0 k y177 (wrap64 ((wrap64 ((-2) * a0)) - 1))) else (spec_PutNumber.j0 k y177 (wrap64 (2 * a0)))) else (some ([] : List Int))))) = some r := h; clear h; obtain ⟨y177, hyq⟩ : ∃ y_ : List Int, y_ = (([] : List Int)) := ⟨_, rfl⟩; replace H : ((spec_l01In.f a0 (-1099511627776) 1099511627776).bind fun t180 => (if t180 = true then (if a0 < 0 then (spec_PutNumber.j0 k y177 (wrap64 ((wrap64 ((-2) * a0)) - 1))) else (spec_PutNumber.j0 k y177 (wrap64 (2 * a0)))) else (some ([] : List Int)))) = some r := by first | (rw [hyq]; with_reducible exact H) | (have H2_ := (Option.bind_some _ _).symm.trans H; rw [hyq]; with_reducible exact H2_) | (have H2_ := (Option.bind_some _ _).symm.trans H; with_reducible exact H2_) | with_reducible exact H | (rw [hyq]; exact H) | exact H
 have Ny177 := ak hyq; clear hyq; replace H := Option.bind_eq_some_iff.mp H; obtain ⟨t180, A20, H⟩ := H; (try dsimp only at H); have A2 := ak A20; clear A20
 by_cases c3 : t180 = true; rotate_left
 · replace c3 := Bool.eq_false_iff.mpr c3; subst c3; have H1 : (some ([] : List Int)) = some r := by rw [if_neg (show ¬ (false = true) by decide)] at H; exact H
   clear H; have H := H1; clear H1; obtain rfl := Option.some.inj H; go_enter Try.func133, Try.ntmps133
   go_wp2_with (first | ((with_reducible refine gate_dst (N := 5) rfl ?_); refine Kd.R_lit (Kd.int .u8) _ 5 ?hg (N := 5) ?hd (xs := ([] : List Int)) (inner := []) (ok := fun _ => True) (okp := fun _ => True) ?hr ?hp (fun _ hk => hk) trivial (Below.refl _ _) (Nat.le_refl _) (by simp) ?_; (case hd => rfl); (case hg => rfl); (case hr => exact xq4); (case hp => exact (Reps.none _ _)); intro v178 w13 ho14 hb hg_ hnew_; clear hg_ hnew_; (first | rw [← Ny177.out] at ho14 | (simp only [Int.reduceToNat] at ho14; rw [← Ny177.out] at ho14)); have HO179 := rL ho14; replace HB := bS hb; clear hb ho14) | ((with_reducible refine gate_callee (f := 60) rfl ?_); refine goB 7 Try.func60 #[.int .i64 a0, .int .i64 (-1099511627776), .int .i64 1099511627776] rfl ?_; (with_reducible refine (spec_l01In.calls a0 (-1099511627776) 1099511627776 false _ A2.out).mono ?_); rintro e w' ⟨rfl, ⟨nd, rfl⟩⟩; refine ⟨_, rfl, ?_⟩))
   go_ret
   exact ⟨_, xq1, xq9, belA⟩
 subst c3; have H1 : (if a0 < 0 then (spec_PutNumber.j0 k y177 (wrap64 ((wrap64 ((-2) * a0)) - 1))) else (spec_PutNumber.j0 k y177 (wrap64 (2 * a0)))) = some r := by rw [if_pos rfl] at H; exact H
 clear H; have H := H1; clear H1; have HC4 := ak H; clear H; go_enter Try.func133, Try.ntmps133
 go_upto_if 12 with (first | ((with_reducible refine gate_dst (N := 5) rfl ?_); refine Kd.R_lit (Kd.int .u8) _ 5 ?hg (N := 5) ?hd (xs := ([] : List Int)) (inner := []) (ok := fun _ => True) (okp := fun _ => True) ?hr ?hp (fun _ hk => hk) trivial (Below.refl _ _) (Nat.le_refl _) (by simp) ?_; (case hd => rfl); (case hg => rfl); (case hr => exact xq4); (case hp => exact (Reps.none _ _)); intro v178 w5 ho6 hb hg_ hnew_; clear hg_ hnew_; (first | rw [← Ny177.out] at ho6 | (simp only [Int.reduceToNat] at ho6; rw [← Ny177.out] at ho6)); have HO179 := rL ho6; replace HB := bS hb; clear hb ho6) | ((with_reducible refine gate_callee (f := 60) rfl ?_); refine goB 7 Try.func60 #[.int .i64 a0, .int .i64 (-1099511627776), .int .i64 1099511627776] rfl ?_; (with_reducible refine (spec_l01In.calls a0 (-1099511627776) 1099511627776 true _ A2.out).mono ?_); rintro e w' ⟨rfl, ⟨nd, rfl⟩⟩; refine ⟨_, rfl, ?_⟩))
 (try simp only [Act.put, sa, sb, sc])
 go_cut [4] (fun v4 wc => ∃ (kq : Nat) (x4_3 : Int), v4 = .int .i64 x4_3 ∧ Aside0 (spec_PutNumber.j0 kq y177 x4_3 = some r) ∧ Aside0 (kq ≤ k) ∧ Aside0 (Kd.R (Kd.int .u8) 5 wc w.heap.size (fun _ => True) v178 y177) ∧ Aside0 (Below w.heap.size w wc))
 case first =>
  have H := HC4.out; clear HC4
  by_cases c7 : a0 < 0; rotate_left
  · rw [if_neg c7] at H; have c7b0 := decide_eq_false c7; clear c7; (first | rw [c7b0] | (simp only [i64_w, i32_w]; rw [c7b0]) | skip)
    have H' := ak H; clear H; go_wp2
    go_meet
    case rel => exact ⟨_, (wrap64 (2 * a0)), eqA, H', ⟨xq7⟩, ⟨rA HO179⟩, ⟨belA⟩⟩
  rw [if_pos c7] at H; have c7b0 := decide_eq_true c7; clear c7; (first | rw [c7b0] | (simp only [i64_w, i32_w]; rw [c7b0]) | skip)
  have H' := ak H; clear H; go_wp2
  go_meet
  case rel => exact ⟨_, (wrap64 ((wrap64 ((-2) * a0)) - 1)), eqA, H', ⟨xq7⟩, ⟨rA HO179⟩, ⟨belA⟩⟩
 case rest =>
  clear HC4; obtain ⟨kq, x4_3, rfl, HA, HJ3, HO_3, HB⟩ := hcut
  cases kq with
  | zero => exact absurd HA.out (by simp [spec_PutNumber.j0])
  | succ kj3 =>
   have H := HA.out; clear HA; simp only [spec_PutNumber.j0] at H; have H' := ak H; clear H; go_wp2
   go_loopg [3, 4] kj3 (fun kq v3 v4 w' => ∃ (x3_2 : List Int) (x4_2 : Int), v4 = .int .i64 x4_2 ∧ Aside0 (spec_PutNumber.l0 kq x3_2 x4_2 = some r) ∧ Aside0 (kq ≤ kj3) ∧ Aside0 (Kd.R (Kd.int .u8) 5 w' w.heap.size (fun _ => True) v3 x3_2) ∧ Aside0 (Below w.heap.size w w'))
   case atStart => exact ⟨(y177), (x4_3), eqA, H', ⟨Nat.le_refl _⟩, ⟨rA HO_3⟩, ⟨belA⟩⟩
   case round =>
    clear H'; obtain ⟨x3_2, x4_2, rfl, HA, HK2, HO_3, HB⟩ := hrel
    cases gk with
    | zero => exact absurd HA.out (by simp [spec_PutNumber.l0])
    | succ k2 =>
     have H := HA.out; clear HA; simp only [spec_PutNumber.l0] at H
     by_cases c8 : x4_2 ≥ 128; rotate_left
     · rw [if_neg c8] at H; have c8b0 : decide (128 ≤ x4_2) = false := decide_eq_false c8; clear c8
       by_cases c11 : x3_2.length < 140737488355328; rotate_left
       · rw [if_neg c11] at H; exact absurd H (by simp)
       rw [if_pos c11] at H; have LMc11 := ak c11; clear c11; obtain ⟨y184, hyq⟩ : ∃ y_ : List Int, y_ = (x3_2 ++ [(x4_2) % 256]) := ⟨_, rfl⟩; replace H : (some y184) = some r := by first | (rw [hyq]; with_reducible exact H) | (have H2_ := (Option.bind_some _ _).symm.trans H; rw [hyq]; with_reducible exact H2_) | (have H2_ := (Option.bind_some _ _).symm.trans H; with_reducible exact H2_) | with_reducible exact H | (rw [hyq]; exact H) | exact H
       have Ny184 := ak hyq; clear hyq; obtain rfl := Option.some.inj H; go_wp2_with (first | ((with_reducible refine gate_builtin (b := .append) (xs := #[.tmp 27, .tmp 30]) rfl ?_); at_builtin; refine Kd.R_append (Kd.int .u8) (w0 := w) w.heap.size rfl (.tmp 27) (.tmp 30) 22 5 (.int .u8 0) 1 rfl Try.underlying22 info5 rfl (by decide) (by omega) u3 x3_2 ((x4_2) % 256) [.int .u8 ((x4_2) % 256)] (fun _ => True) (fun _ => False) rfl rfl ?aP (fun _ hk => hk.elim) ?aF ?aO ?aB ?aS ?aL ?_; (case aP => exact rfl); (case aB => exact belA); (case aF => exact (fun _ _ => trivial)); (case aO => exact (rF HO_3)); (case aS => exact (below_size belA)); (case aL => have := LMc11.out; omega); intro v185 w12 ho hb hg hat; rw [← Ny184.out] at ho; have HO186 := ak ho; replace HB := ak hb; clear HO_3; clear ho hb hg hat))
       go_ret
       exact ⟨_, xq1, by (with_reducible repeat (first | apply Kd.R_alloc | apply Kd.R_drewN | apply Kd.R_drew)); exact HO186.out, belA⟩
     rw [if_pos c8] at H; have c8b0 : decide (128 ≤ x4_2) = true := decide_eq_true c8; clear c8
     by_cases c9 : x3_2.length < 140737488355328; rotate_left
     · rw [if_neg c9] at H; exact absurd H (by simp)
     rw [if_pos c9] at H; have LMc9 := ak c9; clear c9; obtain ⟨y181, hyq⟩ : ∃ y_ : List Int, y_ = (x3_2 ++ [(wrap64 (128 + (Int.tmod x4_2 128))) % 256]) := ⟨_, rfl⟩; replace H : (spec_PutNumber.l0 k2 y181 (wrap64 (Int.tdiv x4_2 128))) = some r := by first | (rw [hyq]; with_reducible exact H) | (have H2_ := (Option.bind_some _ _).symm.trans H; rw [hyq]; with_reducible exact H2_) | (have H2_ := (Option.bind_some _ _).symm.trans H; with_reducible exact H2_) | with_reducible exact H | (rw [hyq]; exact H) | exact H
     have Ny181 := ak hyq; clear hyq; have H' := ak H; clear H; go_wp2_with (first | ((with_reducible refine gate_builtin (b := .append) (xs := #[.tmp 18, .tmp 23]) rfl ?_); at_builtin; refine Kd.R_append (Kd.int .u8) (w0 := w) w.heap.size rfl (.tmp 18) (.tmp 23) 22 5 (.int .u8 0) 1 rfl Try.underlying22 info5 rfl (by decide) (by omega) u3 x3_2 ((wrap64 (128 + (Int.tmod x4_2 128))) % 256) [.int .u8 ((wrap64 (128 + (Int.tmod x4_2 128))) % 256)] (fun _ => True) (fun _ => False) rfl rfl ?aP (fun _ hk => hk.elim) ?aF ?aO ?aB ?aS ?aL ?_; (case aP => exact rfl); (case aB => exact belA); (case aF => exact (fun _ _ => trivial)); (case aO => exact (rF HO_3)); (case aS => exact (below_size belA)); (case aL => have := LMc9.out; omega); intro v182 w10 ho hb hg hat; rw [← Ny181.out] at ho; have HO183 := ak ho; replace HB := ak hb; clear HO_3; clear ho hb hg hat))
     go_roundg k2
     case measure => have := HJ3.out; have := HK2.out; omega
     case rel => exact ⟨(y181), (wrap64 (Int.tdiv x4_2 128)), eqA, H', ⟨by have := HJ3.out; have := HK2.out; omega⟩, ⟨rA HO183⟩, ⟨belA⟩⟩

end Go.Proofs.Ytbojabmpcfclhaa.PFnExactPackJobs

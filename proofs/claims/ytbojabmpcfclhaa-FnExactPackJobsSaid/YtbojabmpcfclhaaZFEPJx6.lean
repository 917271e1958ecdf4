-- Written by a program of this session (the print of the kit with contracts of this session's own added)
import Derived.Test.YtbojabmpcfclhaaZFEPJx5
set_option maxHeartbeats 8000000
set_option maxRecDepth 100000
namespace Go.Proofs.Ytbojabmpcfclhaa.PFnExactPackJobs
open Go.RowKit Go.Proofs.YtbojabmpcfclhaaW.PrintWords Go.Proofs.YtbojabmpcfclhaaW.PrintLast Go.Proofs.YtbojabmpcfclhaaW.PrintMore Go.Proofs.YtbojabmpcfclhaaW.PrintPack Go.Proofs.YtbojabmpcfclhaaW.PrintPack
set_option linter.unusedVariables false
set_option linter.unusedSimpArgs false

mutual
def spec_l10PutList.l0 : Nat → List Int → List Int → Int → Option (List Int)
 | 0, _, _, _ => none
 | k + 1, x0, x1, x5 => if x5 < (x1.length : Int) then (if 0 ≤ x5 then ((spec_PutNumber.f k (rd x1 x5)).bind fun t194 => (spec_l10PutList.l1 k x0 x1 x5 t194 (t194.length : Int) 0)) else (none)) else (some x0)
def spec_l10PutList.l1 : Nat → List Int → List Int → Int → List Int → Int → Int → Option (List Int)
 | 0, _, _, _, _, _, _ => none
 | k + 1, x0, x1, x5, x23, x24, x25 => if x25 < x24 then (if 0 ≤ x25 then (if x25 < (x23.length : Int) then (if x0.length < 140737488355328 then (spec_l10PutList.l1 k (x0 ++ [rd x23 x25]) x1 x5 x23 x24 (wrap64 (x25 + 1))) else (none)) else (none)) else (none)) else (spec_l10PutList.l0 k x0 x1 (wrap64 (x5 + 1)))
end
def spec_l10PutList.f (k : Nat) (l0 : List Int) (l1 : List Int) : Option (List Int) := (spec_PutNumber.f k (l1.length : Int)).bind fun t187 => ((spec_l01Join.f k l0 t187).bind fun t190 => (spec_l10PutList.l0 k t190 l1 0))
theorem spec_l10PutList.mono_l : ∀ k, (∀ y0 y1 y2, LeO (spec_l10PutList.l0 k y0 y1 y2) (spec_l10PutList.l0 (k + 1) y0 y1 y2)) ∧ (∀ y0 y1 y2 y3 y4 y5, LeO (spec_l10PutList.l1 k y0 y1 y2 y3 y4 y5) (spec_l10PutList.l1 (k + 1) y0 y1 y2 y3 y4 y5))
 | 0 => ⟨fun _ _ _ r h => by simp [spec_l10PutList.l0] at h, fun _ _ _ _ _ _ r h => by simp [spec_l10PutList.l1] at h⟩
 | k + 1 => by
  obtain ⟨ih0, ih1⟩ := spec_l10PutList.mono_l k; refine ⟨?_, ?_⟩
  · intro y0 y1 y2; unfold spec_l10PutList.l0; exact xq25
  · intro y0 y1 y2 y3 y4 y5; unfold spec_l10PutList.l1; exact xq25
theorem spec_l10PutList.mono : ∀ a0 a1 k, LeO (spec_l10PutList.f k a0 a1) (spec_l10PutList.f (k + 1) a0 a1) := by
 intro a0 a1 k; obtain ⟨ih0, ih1⟩ := spec_l10PutList.mono_l k
 unfold spec_l10PutList.f
 exact xq25
theorem spec_l10PutList.calls (k : Nat) (A0 : Option Addr) (c0 : Nat) (l0 : List Int) (A1 : Option Addr) (c1 : Nat) (l1 : List Int) (r : List Int) (w : World) (hr0 : Kd.C (Kd.int .u8) w A0 l0.length l0) (hc0 : l0.length ≤ c0) (hr1 : Kd.C (Kd.int .i64) w A1 l1.length l1) (hc1 : l1.length ≤ c1) (h : spec_l10PutList.f k l0 l1 = some r) :
 Calls Try.prog 134 #[.slice A0 l0.length c0, .slice A1 l1.length c1] w fun e w' => ∃ v0_ : Value, e = .returned (v0_) ∧ Kd.R (Kd.int .u8) 5 w' w.heap.size (fun _ => True) v0_ r ∧ Below w.heap.size w w' := by
 have HR0 := ak hr0; have HC0 := ak hc0; clear hr0 hc0; have HR1 := ak hr1; have HC1 := ak hc1; clear hr1 hc1; have HB := ak (Below.refl w.heap.size w); have H : ((spec_PutNumber.f k (l1.length : Int)).bind fun t187 => ((spec_l01Join.f k l0 t187).bind fun t190 => (spec_l10PutList.l0 k t190 l1 0))) = some r := h; clear h; replace H := Option.bind_eq_some_iff.mp H; obtain ⟨t187, A30, H⟩ := H; (try dsimp only at H); have A3 := ak A30; clear A30; replace H := Option.bind_eq_some_iff.mp H; obtain ⟨t190, A40, H⟩ := H; (try dsimp only at H); have A4 := ak A40; clear A40; have H' := ak H; clear H; go_enter Try.func134, Try.ntmps134
 go_wp2_with (first | ((with_reducible refine gate_callee (f := 133) rfl ?_); refine goB 11 Try.func133 #[.int .i64 (l1.length : Int)] rfl ?_; (with_reducible refine (spec_PutNumber.calls k (l1.length : Int) t187 _ A3.out).mono ?_); rintro e w5 ⟨v188, rfl, ho0, hb⟩; refine ⟨_, rfl, ?_⟩; have HO189 := rL ho0; replace HB := bS hb; (try clear hb ho0); obtain ⟨Ao6, co6, eo6⟩ := Kd.R_slice HO189.out; subst eo6) | ((with_reducible refine gate_callee (f := 75) rfl ?_); refine goB 12 Try.func75 #[.slice A0 l0.length c0, .slice Ao6 t187.length co6] rfl ?_; (with_reducible refine (spec_l01Join.calls k _ _ l0 _ _ t187 t190 _ ?side1 ?side2 ?side3 ?side4 A4.out).mono ?_); (case side1 => exact cA (Kd.C_below HR0.out HB.out)); (case side2 => exact HC0.out); (case side3 => exact cA ((Kd.R_reads' HO189.out).2.2)); (case side4 => exact (Kd.R_reads' HO189.out).2.1); rintro e w7 ⟨v191, rfl, ho0, hb⟩; refine ⟨_, rfl, ?_⟩; have HO192 := rL (Kd.R_new' ho0 (Kd.R_lt (rF HO189))); replace HO189 := ak (Kd.R_elder' (rF HO189) (Kd.R_base ho0) hb); replace HB := bS hb; (try clear hb ho0)))
 go_loopg [0, 5] k (fun kq v0 v5 w' => ∃ (x0_1 : List Int) (x5_1 : Int), v5 = .int .i64 x5_1 ∧ Aside0 (spec_l10PutList.l0 kq x0_1 l1 x5_1 = some r) ∧ Aside0 (kq ≤ k) ∧ Aside0 (Kd.R (Kd.int .u8) 5 w' w.heap.size (fun _ => True) v0 x0_1) ∧ Aside0 (Below w.heap.size w w'))
 case atStart => exact ⟨(t190), (0), eqA, H', ⟨Nat.le_refl _⟩, ⟨rE (Kd.R_mono HO192.out (fun _ hk => trivial))⟩, ⟨belA⟩⟩
 case round =>
  clear H'; obtain ⟨x0_1, x5_1, rfl, HA, HK1, HO_0, HB⟩ := hrel
  cases gk with
  | zero => exact absurd HA.out (by simp [spec_l10PutList.l0])
  | succ k1 =>
   have H := HA.out; clear HA; simp only [spec_l10PutList.l0] at H
   by_cases c8 : x5_1 < (l1.length : Int); rotate_left
   · rw [if_neg c8] at H; have c8b0 := decide_eq_false c8; clear c8; obtain rfl := Option.some.inj H; go_wp2
     go_ret
     exact ⟨_, xq1, xq17, belA⟩
   rw [if_pos c8] at H; have c8b0 := decide_eq_true c8; clear c8
   by_cases c9 : 0 ≤ x5_1; rotate_left
   · rw [if_neg c9] at H; exact absurd H (by simp)
   rw [if_pos c9] at H; have c9b0 := decide_eq_true c9; clear c9; replace H := Option.bind_eq_some_iff.mp H; obtain ⟨t194, A100, H⟩ := H; (try dsimp only at H); have A10 := ak A100; clear A100; have H' := ak H; clear H; have p193 : 0 ≤ (x5_1 : Int) := odA; have q193 : x5_1 < (l1.length : Int) := odA; obtain ⟨ad193, e193, hx193_0⟩ := Kd.at_int HR1.out x5_1 p193 q193
   cases e193
   try replace hx193_0 := cB HB hx193_0
   replace p193 := eq_true p193; replace q193 := eq_true q193; go_wp2_with (first | ((with_reducible refine gate_callee (f := 133) rfl ?_); refine goB 23 Try.func133 #[.int .i64 (rd l1 x5_1)] rfl ?_; (with_reducible refine (spec_PutNumber.calls k1 (rd l1 x5_1) t194 _ A10.out).mono ?_); rintro e w11 ⟨v195, rfl, ho0, hb⟩; refine ⟨_, rfl, ?_⟩; have HO196 := rL (Kd.R_new' ho0 (Kd.R_lt (rF HO_0))); replace HO_0 := ak (Kd.R_elder' (rF HO_0) (Kd.R_base ho0) hb); replace HB := bS hb; (try clear hb ho0); obtain ⟨Ao12, co12, eo12⟩ := Kd.R_slice HO196.out; subst eo12))
   go_loopg [0, 25] k1 (fun kq v0 v25 w' => ∃ (x0_2 : List Int) (x25_2 : Int), v25 = .int .i64 x25_2 ∧ Aside0 (spec_l10PutList.l1 kq x0_2 l1 x5_1 t194 (t194.length : Int) x25_2 = some r) ∧ Aside0 (kq ≤ k1) ∧ Aside0 (Kd.R (Kd.int .u8) 5 w' w.heap.size (fun k_ => some k_ ≠ ((.slice Ao12 t194.length co12) : Value).ownBlock) v0 x0_2) ∧ Aside0 (Kd.R (Kd.int .u8) 5 w' w.heap.size (fun k_ => some k_ ≠ (v0 : Value).ownBlock) (.slice Ao12 t194.length co12) t194) ∧ Aside0 (Below w.heap.size w w'))
   case atStart => exact ⟨(x0_1), (0), eqA, H', ⟨Nat.le_refl _⟩, ⟨rE (Kd.R_mono HO_0.out (fun _ hk => hk.2))⟩, ⟨rE (Kd.R_mono HO196.out (fun _ hk => hk.2))⟩, ⟨belA⟩⟩
   case round =>
    clear H'; obtain ⟨x0_2, x25_2, rfl, HA, HK2, HO_0, HO_23, HB⟩ := hrel
    cases gk with
    | zero => exact absurd HA.out (by simp [spec_l10PutList.l1])
    | succ k2 =>
     have H := HA.out; clear HA; simp only [spec_l10PutList.l1] at H
     by_cases c13 : x25_2 < (t194.length : Int); rotate_left
     · rw [if_neg c13] at H; have c13b0 := decide_eq_false c13; clear c13; have H' := ak H; clear H; go_wp2
       go_roundg k2
       case measure => have := HK1.out; have := HK2.out; omega
       case rel => exact ⟨(x0_2), (wrap64 (x5_1 + 1)), eqA, H', ⟨xq16⟩, ⟨rE (Kd.R_mono HO_0.out (fun _ hk => trivial))⟩, ⟨belA⟩⟩
     rw [if_pos c13] at H; have c13b0 := decide_eq_true c13; clear c13
     by_cases c14 : 0 ≤ x25_2; rotate_left
     · rw [if_neg c14] at H; exact absurd H (by simp)
     rw [if_pos c14] at H; have c14b0 := decide_eq_true c14; clear c14
     by_cases c15 : x25_2 < (t194.length : Int); rotate_left
     · rw [if_neg c15] at H; exact absurd H (by simp)
     rw [if_pos c15] at H; have c15b0 := decide_eq_true c15; clear c15
     by_cases c16 : x0_2.length < 140737488355328; rotate_left
     · rw [if_neg c16] at H; exact absurd H (by simp)
     rw [if_pos c16] at H; have LMc16 := ak c16; clear c16; obtain ⟨y198, hyq⟩ : ∃ y_ : List Int, y_ = (x0_2 ++ [rd t194 x25_2]) := ⟨_, rfl⟩; replace H : (spec_l10PutList.l1 k2 y198 l1 x5_1 t194 (t194.length : Int) (wrap64 (x25_2 + 1))) = some r := by first | (rw [hyq]; with_reducible exact H) | (have H2_ := (Option.bind_some _ _).symm.trans H; rw [hyq]; with_reducible exact H2_) | (have H2_ := (Option.bind_some _ _).symm.trans H; with_reducible exact H2_) | with_reducible exact H | (rw [hyq]; exact H) | exact H
     have Ny198 := ak hyq; clear hyq; have H' := ak H; clear H; have p197 : 0 ≤ (x25_2 : Int) := odA; have q197 : x25_2 < (t194.length : Int) := odA; obtain ⟨ad197, e197, hx197_0⟩ := Kd.at_int (Kd.R_reads' HO_23.out).2.2 x25_2 p197 q197
     cases e197
     replace p197 := eq_true p197; replace q197 := eq_true q197; go_wp2_with (first | ((with_reducible refine gate_builtin (b := .append) (xs := #[.tmp 29, .tmp 31]) rfl ?_); at_builtin; refine Kd.R_append (Kd.int .u8) (w0 := w) w.heap.size rfl (.tmp 29) (.tmp 31) 22 5 (.int .u8 0) 1 rfl Try.underlying22 info5 rfl (by decide) (by omega) u0 x0_2 (rd t194 x25_2) [.int .u8 (rd t194 x25_2)] (fun k_ => some k_ ≠ (.slice (some ad197) t194.length co12 : Value).ownBlock) (fun _ => False) rfl rfl ?aP (fun _ hk => hk.elim) ?aF ?aO ?aB ?aS ?aL ?_; (case aP => exact rfl); (case aB => exact belA); (case aF => exact (fun k_ hk => Kd.fresh' (Kd.R_lt (rF HO_23)) k_ hk)); (case aO => exact (rF HO_0)); (case aS => exact (below_size belA)); (case aL => have := LMc16.out; omega); intro v199 w17 ho hb hg hat; rw [← Ny198.out] at ho; have HO200 := ak ho; replace HO_23 := ak (Kd.R_after (ok := (fun _ => True)) (by (with_reducible repeat (first | apply Kd.R_alloc | apply Kd.R_drewN | apply Kd.R_drew)); first | exact Kd.R_mono HO_23.out (fun _ hk => ⟨trivial, hk⟩) | exact Kd.R_mono HO_23.out (fun _ _ => trivial)) hg hat); replace HB := ak hb; clear HO_0; clear ho hb hg hat))
     go_roundg k2
     case measure => have := HK1.out; have := HK2.out; omega
     case rel => exact ⟨(y198), (wrap64 (x25_2 + 1)), eqA, H', ⟨xq16⟩, ⟨rA HO200⟩, ⟨rE (Kd.R_mono HO_23.out (fun _ hk => hk.2))⟩, ⟨belA⟩⟩

def spec_EncodeJob.f (k : Nat) (a0_0 : Int) (a0_1 : Int) (l0_2 : List Int) (l0_3 : List Int) (a0_4 : Int) : Option (List Int) := (spec_JobOk.f k a0_0 a0_1 l0_2 l0_3 a0_4).bind fun t202 => (if t202 = true then ((spec_PutNumber.f k a0_4).bind fun t206 => ((spec_l01Join.f k (([(a0_0) % 256, (a0_1) % 256] : List Int)) t206).bind fun t209 => ((spec_l10PutList.f k t209 l0_2).bind fun t212 => ((spec_l10PutList.f k t212 l0_3).bind fun t215 => (some t215))))) else (some ([] : List Int)))
theorem spec_EncodeJob.mono : ∀ a0 a1 a2 a3 a4 k, LeO (spec_EncodeJob.f k a0 a1 a2 a3 a4) (spec_EncodeJob.f (k + 1) a0 a1 a2 a3 a4) := by
 intro a0 a1 a2 a3 a4 k
 unfold spec_EncodeJob.f
 exact (by repeat' (with_reducible first | exact spec_JobOk.mono _ _ _ _ _ _ | exact spec_PutNumber.mono _ _ | exact spec_l01Join.mono _ _ _ | exact spec_l10PutList.mono _ _ _ | exact LeO.refl _ | exact LeO.none _ | refine LeO.ite ?_ ?_ | refine LeO.bind ?_ (fun _ => ?_)))
def spec_EncodeJob.T3 : Bool × List (List Nat × List Nat) := (true, [([], []), ([0], [0]), ([1], [1]), ([], []), ([3], [3]), ([4], [4]), ([2, 5], [2, 5]), ([], []), ([7], [7]), ([8], [8]), ([6, 9, 9], [6, 9]), ([10, 10, 0, 1, 2, 3, 4, 5, 6, 7, 8, 9, 10], [10])])
def spec_EncodeJob.B3 : List Nat := [0, 1, 3, 0, 8, 24, 63, 0, 128, 384, 1023, 2047]
theorem spec_EncodeJob.tab3 : rtab .any (opsOf Try.f77 3) = spec_EncodeJob.T3 := by kernel_rfl
theorem spec_EncodeJob.bits3 : waitsOk spec_EncodeJob.T3.2 spec_EncodeJob.B3 = true := by kernel_rfl
def spec_EncodeJob.T4 : Bool × List (List Nat × List Nat) := (true, [([], []), ([], []), ([1], [1]), ([0, 2], [0, 2]), ([], []), ([4], [4]), ([3, 5, 3], [3, 5]), ([6, 6, 0, 1, 2, 3, 4, 5, 6], [6])])
def spec_EncodeJob.B4 : List Nat := [0, 0, 2, 7, 0, 16, 63, 127]
theorem spec_EncodeJob.tab4 : rtab .any (opsOf Try.f77 4) = spec_EncodeJob.T4 := by kernel_rfl
theorem spec_EncodeJob.bits4 : waitsOk spec_EncodeJob.T4.2 spec_EncodeJob.B4 = true := by kernel_rfl
theorem spec_EncodeJob.calls (k : Nat) (a0_0 : Int) (a0_1 : Int) (A0_2 : Option Addr) (c0_2 : Nat) (l0_2 : List Int) (A0_3 : Option Addr) (c0_3 : Nat) (l0_3 : List Int) (a0_4 : Int) (r : List Int) (w : World) (hr0_2 : Kd.C (Kd.int .i64) w A0_2 l0_2.length l0_2) (hc0_2 : l0_2.length ≤ c0_2) (hr0_3 : Kd.C (Kd.int .i64) w A0_3 l0_3.length l0_3) (hc0_3 : l0_3.length ≤ c0_3) (h : spec_EncodeJob.f k a0_0 a0_1 l0_2 l0_3 a0_4 = some r) :
 Calls Try.prog 77 #[.agg #[.int .i64 a0_0, .int .i64 a0_1, .slice A0_2 l0_2.length c0_2, .slice A0_3 l0_3.length c0_3, .int .i64 a0_4]] w fun e w' => ∃ v0_ : Value, e = .returned (v0_) ∧ Kd.R (Kd.int .u8) 5 w' w.heap.size (fun _ => True) v0_ r ∧ Below w.heap.size w w' := by
 have hu104 := Try.underlying104; have HR0_2 := ak hr0_2; have HC0_2 := ak hc0_2; clear hr0_2 hc0_2; have HR0_3 := ak hr0_3; have HC0_3 := ak hc0_3; clear hr0_3 hc0_3; have HB := ak (Below.refl w.heap.size w); have H : ((spec_JobOk.f k a0_0 a0_1 l0_2 l0_3 a0_4).bind fun t202 => (if t202 = true then ((spec_PutNumber.f k a0_4).bind fun t206 => ((spec_l01Join.f k (([(a0_0) % 256, (a0_1) % 256] : List Int)) t206).bind fun t209 => ((spec_l10PutList.f k t209 l0_2).bind fun t212 => ((spec_l10PutList.f k t212 l0_3).bind fun t215 => (some t215))))) else (some ([] : List Int)))) = some r := h; clear h; replace H := Option.bind_eq_some_iff.mp H; obtain ⟨t202, A20, H⟩ := H; (try dsimp only at H); have A2 := ak A20; clear A20
 by_cases c3 : t202 = true; rotate_left
 · replace c3 := Bool.eq_false_iff.mpr c3; subst c3; have H1 : (some ([] : List Int)) = some r := by rw [if_neg (show ¬ (false = true) by decide)] at H; exact H
   clear H; have H := H1; clear H1; obtain rfl := Option.some.inj H; go_enter Try.func77, Try.ntmps77
   go_wp2_with (first | ((with_reducible refine gate_dst (N := 1) rfl ?_); refine boxA 1 #[.int .i64 a0_0, .int .i64 a0_1, .slice A0_2 l0_2.length c0_2, .slice A0_3 l0_3.length c0_3, .int .i64 a0_4] 104 ?_; intro gb201 hg w24 hbox hb; have BK201 := ak hbox; have GW201 := leA (w := w) hg; have GE201 := leA (w := w) hg; replace HB := bS hb; clear hb hbox hg; obtain ⟨_, _, _, _, _, _, _, _, _, _⟩ := cel5 BK201) | ((with_reducible refine gate_callee (f := 74) rfl ?_); refine goB 5 Try.func74 #[.agg #[.int .i64 a0_0, .int .i64 a0_1, .slice A0_2 l0_2.length c0_2, .slice A0_3 l0_3.length c0_3, .int .i64 a0_4]] rfl ?_; (with_reducible refine (spec_JobOk.calls k a0_0 a0_1 _ _ l0_2 _ _ l0_3 a0_4 false _ ?side1 ?side2 ?side3 ?side4 A2.out).mono ?_); (case side1 => exact cA (Kd.C_below HR0_2.out HB.out)); (case side2 => exact HC0_2.out); (case side3 => exact cA (Kd.C_below HR0_3.out HB.out)); (case side4 => exact HC0_3.out); rintro e w26 ⟨rfl, hb⟩; refine ⟨_, rfl, ?_⟩; replace BK201 := bB BK201 hb; replace HB := bS hb; (try clear hb)))
   go_ret
   exact ⟨_, xq1, xq9, belA⟩
 subst c3; have H1 : ((spec_PutNumber.f k a0_4).bind fun t206 => ((spec_l01Join.f k (([(a0_0) % 256, (a0_1) % 256] : List Int)) t206).bind fun t209 => ((spec_l10PutList.f k t209 l0_2).bind fun t212 => ((spec_l10PutList.f k t212 l0_3).bind fun t215 => (some t215))))) = some r := by rw [if_pos rfl] at H; exact H
 clear H; have H := H1; clear H1; obtain ⟨y203, hyq⟩ : ∃ y_ : List Int, y_ = (([(a0_0) % 256, (a0_1) % 256] : List Int)) := ⟨_, rfl⟩; replace H : ((spec_PutNumber.f k a0_4).bind fun t206 => ((spec_l01Join.f k y203 t206).bind fun t209 => ((spec_l10PutList.f k t209 l0_2).bind fun t212 => ((spec_l10PutList.f k t212 l0_3).bind fun t215 => (some t215))))) = some r := by first | (rw [hyq]; with_reducible exact H) | (have H2_ := (Option.bind_some _ _).symm.trans H; rw [hyq]; with_reducible exact H2_) | (have H2_ := (Option.bind_some _ _).symm.trans H; with_reducible exact H2_) | with_reducible exact H | (rw [hyq]; exact H) | exact H
 have Ny203 := ak hyq; clear hyq; replace H := Option.bind_eq_some_iff.mp H; obtain ⟨t206, A40, H⟩ := H; (try dsimp only at H); have A4 := ak A40; clear A40; replace H := Option.bind_eq_some_iff.mp H; obtain ⟨t209, A50, H⟩ := H; (try dsimp only at H); have A5 := ak A50; clear A50; replace H := Option.bind_eq_some_iff.mp H; obtain ⟨t212, A60, H⟩ := H; (try dsimp only at H); have A6 := ak A60; clear A60; replace H := Option.bind_eq_some_iff.mp H; obtain ⟨t215, A70, H⟩ := H; (try dsimp only at H); have A7 := ak A70; clear A70; obtain rfl := Option.some.inj H; go_enter Try.func77, Try.ntmps77
 try go_wp2_with (first | ((with_reducible refine gate_dst (N := 1) rfl ?_); refine boxA 1 #[.int .i64 a0_0, .int .i64 a0_1, .slice A0_2 l0_2.length c0_2, .slice A0_3 l0_3.length c0_3, .int .i64 a0_4] 104 ?_; intro gb201 hg w8 hbox hb; have BK201 := ak hbox; have GW201 := leA (w := w) hg; have GE201 := leA (w := w) hg; replace HB := bS hb; clear hb hbox hg; obtain ⟨_, _, _, _, _, _, _, _, _, _⟩ := cel5 BK201) | ((with_reducible refine gate_callee (f := 74) rfl ?_); refine goB 5 Try.func74 #[.agg #[.int .i64 a0_0, .int .i64 a0_1, .slice A0_2 l0_2.length c0_2, .slice A0_3 l0_3.length c0_3, .int .i64 a0_4]] rfl ?_; (with_reducible refine (spec_JobOk.calls k a0_0 a0_1 _ _ l0_2 _ _ l0_3 a0_4 true _ ?side1 ?side2 ?side3 ?side4 A2.out).mono ?_); (case side1 => exact cA (Kd.C_below HR0_2.out HB.out)); (case side2 => exact HC0_2.out); (case side3 => exact cA (Kd.C_below HR0_3.out HB.out)); (case side4 => exact HC0_3.out); rintro e w10 ⟨rfl, hb⟩; refine ⟨_, rfl, ?_⟩; replace BK201 := bB BK201 hb; replace HB := bS hb; (try clear hb)))
 replace BK201 := ak (blk_drew BK201.out); replace HB := ak (below_drew1 HB.out); refine start_ (n := 12) (S := fun w' => True) (ds := []) #[false, false, false, false, false, false, false, false, false, false, false, false] (by kernel_rfl) rfl rfl trivial (fun hHeld => ?_); refine with_tabW spec_EncodeJob.tab3 spec_EncodeJob.bits3 (fun HT_ HW_ => ?_)
 generalize w10.drew = w11 at BK201 HB hHeld ⊢
 refine pure_ (i := 0) (N := some 7) (v := ?_) (a' := ?_) #[true, false, false, false, false, false, false, false, false, false, false, false] rfl rfl (any_of HT_.out (by kernel_rfl)) (fun _ _ _ h => h) (Or.inl ⟨by rfl, ?_⟩) ?_ ?_
 rotate_left
 · intro w'; go_simp
   with_reducible rfl
 rotate_left
 · simp only [Act.put, sa, sb, sc, i64_w, i32_w]
   rfl
 refine pure_ (i := 3) (N := some 10) (v := ?_) (a' := ?_) #[true, false, false, true, false, false, false, false, false, false, false, false] rfl rfl (any_of HT_.out (by kernel_rfl)) (fun _ _ _ h => h) (Or.inl ⟨by rfl, ?_⟩) ?_ ?_
 rotate_left
 · intro w'; go_simp
   with_reducible rfl
 rotate_left
 · simp only [Act.put, sa, sb, sc, i64_w, i32_w]
   rfl
 refine pure_ (i := 7) (N := some 14) (v := ?_) (a' := ?_) #[true, false, false, true, false, false, false, true, false, false, false, false] rfl rfl (any_of HT_.out (by kernel_rfl)) (fun _ _ _ h => h) (Or.inl ⟨by rfl, ?_⟩) ?_ ?_
 rotate_left
 · intro w'; go_simp
   with_reducible rfl
 rotate_left
 · simp only [Act.put, sa, sb, sc, i64_w, i32_w]
   rfl
 refine inv_at [1, 2, 4, 5, 6, 8, 9, 10, 11] (fun a0_ b a w' => ∃ (v204 : Value) (v207 : Value) (v210 : Value) (m11_ : Value), a = putSel a0_ b [(1, 8, .int .i64 a0_0), (2, 9, .int .u8 ((a0_0) % 256)), (4, 11, .int .i64 a0_1), (5, 12, .int .u8 ((a0_1) % 256)), (6, 13, v204), (8, 15, .int .i64 a0_4), (9, 16, v207), (10, 17, v210), (11, 3, m11_)] ∧ (w'.heap[gb201]? = some (.cells #[.int .i64 a0_0, .int .i64 a0_1, .slice A0_2 l0_2.length c0_2, .slice A0_3 l0_3.length c0_3, .int .i64 a0_4] 104 (0, 0))) ∧ (Below w.heap.size w w') ∧ (b 6 = true → Kd.R (Kd.int .u8) 5 w' w.heap.size (fun _ => True) v204 y203) ∧ (b 9 = true → Kd.R (Kd.int .u8) 5 w' w.heap.size (fun _ => True) v207 t206) ∧ (b 10 = true → Kd.R (Kd.int .u8) 5 w' w.heap.size (fun _ => True) v210 t209) ∧ (b 11 = true → (m11_ : Value) = v210)) HT_.out HW_.out (by kernel_rfl) (by kernel_rfl) ?_ ?_ ?_
 · exact ⟨.bool false, .bool false, .bool false, .bool false, by simp only [putSel, Bool.false_eq_true, if_false], BK201.out, HB.out, fun h_ => absurd h_ (by decide), fun h_ => absurd h_ (by decide), fun h_ => absurd h_ (by decide), fun h_ => absurd h_ (by decide)⟩
 · skip
   clear BK201 HB; refine steps_cons ?_ ?_
   · rintro b a w' ⟨v204, v207, v210, m11_, ha, Q_BK201, Q_HB, Q_HO205, Q_HO208, Q_HO211, Q_X11_⟩ hb_ hon hoff
     refine ⟨_, rfl, fun K hK => ?_⟩
     have e7 : a.tmps[7]? = some (.pointer (some ⟨gb201, 0, none⟩)) := by rw [ha]; exact (putSel_off rfl).trans rfl
     replace ha := ak ha; have BK201 := ak Q_BK201; have HB := ak Q_HB; have hc0_ : w'.cell? ⟨gb201, 0, none⟩ = some (.int .i64 a0_0) := (blk_cell BK201.out 0).trans rfl; have hc1_ : w'.cell? ⟨gb201, 1, none⟩ = some (.int .i64 a0_1) := (blk_cell BK201.out 1).trans rfl; have hc2_ : w'.cell? ⟨gb201, 2, none⟩ = some (.slice A0_2 l0_2.length c0_2) := (blk_cell BK201.out 2).trans rfl; have hc3_ : w'.cell? ⟨gb201, 3, none⟩ = some (.slice A0_3 l0_3.length c0_3) := (blk_cell BK201.out 3).trans rfl; have hc4_ : w'.cell? ⟨gb201, 4, none⟩ = some (.int .i64 a0_4) := (blk_cell BK201.out 4).trans rfl; refine value_ (w1 := w') (v := .int .i64 a0_0) (by rfl) rfl ?_ ?_
     · go_simp
       (try simp only [i64_w])
       try rfl
     refine hK.out _ _ ⟨v204, v207, v210, m11_, (by rw [ha.out]; exact putSel_upk 0 hb_ rfl rfl rfl), Q_BK201, Q_HB, fun h0_ => absurd ((hoff 6 (by kernel_rfl)).symm.trans h0_) (by decide), Q_HO208, fun h0_ => absurd ((hoff 10 (by kernel_rfl)).symm.trans h0_) (by decide), fun h0_ => absurd ((hoff 11 (by kernel_rfl)).symm.trans h0_) (by decide)⟩
   refine steps_cons ?_ ?_
   · rintro b a w' ⟨v204, v207, v210, m11_, ha, Q_BK201, Q_HB, Q_HO205, Q_HO208, Q_HO211, Q_X11_⟩ hb_ hon hoff
     refine ⟨_, rfl, fun K hK => ?_⟩
     have e8 : a.tmps[8]? = some (.int .i64 a0_0) := by rw [ha]; exact putSel_on (e := (1, 8, .int .i64 a0_0)) 0 rfl rfl (hon 1 (by kernel_rfl)) rfl
     replace ha := ak ha; have BK201 := ak Q_BK201; have HB := ak Q_HB; refine value_ (w1 := w') (v := .int .u8 ((a0_0) % 256)) (by rfl) rfl ?_ ?_
     · go_simp
       (try simp only [i64_w])
       try rfl
     refine hK.out _ _ ⟨v204, v207, v210, m11_, (by rw [ha.out]; exact putSel_upk 1 hb_ rfl rfl rfl), Q_BK201, Q_HB, fun h0_ => absurd ((hoff 6 (by kernel_rfl)).symm.trans h0_) (by decide), Q_HO208, fun h0_ => absurd ((hoff 10 (by kernel_rfl)).symm.trans h0_) (by decide), fun h0_ => absurd ((hoff 11 (by kernel_rfl)).symm.trans h0_) (by decide)⟩
   refine steps_cons ?_ ?_
   · rintro b a w' ⟨v204, v207, v210, m11_, ha, Q_BK201, Q_HB, Q_HO205, Q_HO208, Q_HO211, Q_X11_⟩ hb_ hon hoff
     refine ⟨_, rfl, fun K hK => ?_⟩
     have e10 : a.tmps[10]? = some (.pointer (some ⟨gb201, 1, none⟩)) := by rw [ha]; exact (putSel_off rfl).trans rfl
     replace ha := ak ha; have BK201 := ak Q_BK201; have HB := ak Q_HB; have hc0_ : w'.cell? ⟨gb201, 0, none⟩ = some (.int .i64 a0_0) := (blk_cell BK201.out 0).trans rfl; have hc1_ : w'.cell? ⟨gb201, 1, none⟩ = some (.int .i64 a0_1) := (blk_cell BK201.out 1).trans rfl; have hc2_ : w'.cell? ⟨gb201, 2, none⟩ = some (.slice A0_2 l0_2.length c0_2) := (blk_cell BK201.out 2).trans rfl; have hc3_ : w'.cell? ⟨gb201, 3, none⟩ = some (.slice A0_3 l0_3.length c0_3) := (blk_cell BK201.out 3).trans rfl; have hc4_ : w'.cell? ⟨gb201, 4, none⟩ = some (.int .i64 a0_4) := (blk_cell BK201.out 4).trans rfl; refine value_ (w1 := w') (v := .int .i64 a0_1) (by rfl) rfl ?_ ?_
     · go_simp
       (try simp only [i64_w])
       try rfl
     refine hK.out _ _ ⟨v204, v207, v210, m11_, (by rw [ha.out]; exact putSel_upk 2 hb_ rfl rfl rfl), Q_BK201, Q_HB, fun h0_ => absurd ((hoff 6 (by kernel_rfl)).symm.trans h0_) (by decide), Q_HO208, fun h0_ => absurd ((hoff 10 (by kernel_rfl)).symm.trans h0_) (by decide), fun h0_ => absurd ((hoff 11 (by kernel_rfl)).symm.trans h0_) (by decide)⟩
   refine steps_cons ?_ ?_
   · rintro b a w' ⟨v204, v207, v210, m11_, ha, Q_BK201, Q_HB, Q_HO205, Q_HO208, Q_HO211, Q_X11_⟩ hb_ hon hoff
     refine ⟨_, rfl, fun K hK => ?_⟩
     have e11 : a.tmps[11]? = some (.int .i64 a0_1) := by rw [ha]; exact putSel_on (e := (4, 11, .int .i64 a0_1)) 2 rfl rfl (hon 4 (by kernel_rfl)) rfl
     replace ha := ak ha; have BK201 := ak Q_BK201; have HB := ak Q_HB; refine value_ (w1 := w') (v := .int .u8 ((a0_1) % 256)) (by rfl) rfl ?_ ?_
     · go_simp
       (try simp only [i64_w])
       try rfl
     refine hK.out _ _ ⟨v204, v207, v210, m11_, (by rw [ha.out]; exact putSel_upk 3 hb_ rfl rfl rfl), Q_BK201, Q_HB, fun h0_ => absurd ((hoff 6 (by kernel_rfl)).symm.trans h0_) (by decide), Q_HO208, fun h0_ => absurd ((hoff 10 (by kernel_rfl)).symm.trans h0_) (by decide), fun h0_ => absurd ((hoff 11 (by kernel_rfl)).symm.trans h0_) (by decide)⟩
   refine steps_cons ?_ ?_
   · rintro b a w' ⟨v204, v207, v210, m11_, ha, Q_BK201, Q_HB, Q_HO205, Q_HO208, Q_HO211, Q_X11_⟩ hb_ hon hoff
     refine ⟨_, rfl, fun K hK => ?_⟩
     have e9 : a.tmps[9]? = some (.int .u8 ((a0_0) % 256)) := by rw [ha]; exact putSel_on (e := (2, 9, .int .u8 ((a0_0) % 256))) 1 rfl rfl (hon 2 (by kernel_rfl)) rfl
     have e12 : a.tmps[12]? = some (.int .u8 ((a0_1) % 256)) := by rw [ha]; exact putSel_on (e := (5, 12, .int .u8 ((a0_1) % 256))) 3 rfl rfl (hon 5 (by kernel_rfl)) rfl
     replace ha := ak ha; have BK201 := ak Q_BK201; have HB := ak Q_HB; refine Kd.R_lit_step (Kd.int .u8) _ 5 ?hg (N := 13) ?hd (xs := ([(a0_0) % 256, (a0_1) % 256] : List Int)) (inner := [.int .u8 ((a0_0) % 256), .int .u8 ((a0_1) % 256)]) (ok := fun _ => True) (okp := fun _ => True) ?hr ?hp (fun _ hk => hk) trivial (Below.refl _ _) (Nat.le_refl _) (by simp) ?_; (case hd => rfl); (case hg => rfl); (case hr => exact xq4); (case hp => exact xq26)
     intro v204 w12 ho13 hb hg_ hnew_; clear hg_ hnew_; (first | rw [← Ny203.out] at ho13 | (simp only [Int.reduceToNat] at ho13; rw [← Ny203.out] at ho13))
     have n0_ := rL ho13; have n1_ := bB BK201 hb; have n2_ := bS hb; have z_HO208 := fun (h0_ : b 9 = true) => (show Kd.R (Kd.int .u8) 5 w12 w.heap.size (fun _ => True) v207 t206 from by first | exact (Kd.R_elder' (rE (Q_HO208 h0_)) (Kd.R_base ho13) hb) | exact Kd.R_mono (Kd.R_elder' (rE (Q_HO208 h0_)) (Kd.R_base ho13) hb) (fun _ h_ => by first | trivial | exact h_ | exact h_.1))
     clear BK201; clear HB; have HO205 := n0_; have BK201 := n1_; have HB := n2_; clear n0_ n1_ n2_; clear hb ho13; refine hK.out _ _ ⟨v204, v207, v210, m11_, (by rw [ha.out]; exact putSel_upk 4 hb_ rfl rfl rfl), blkA, belA, fun _ => (rF HO205), z_HO208, fun h0_ => absurd ((hoff 10 (by kernel_rfl)).symm.trans h0_) (by decide), fun h0_ => absurd ((hoff 11 (by kernel_rfl)).symm.trans h0_) (by decide)⟩
   refine steps_cons ?_ ?_
   · rintro b a w' ⟨v204, v207, v210, m11_, ha, Q_BK201, Q_HB, Q_HO205, Q_HO208, Q_HO211, Q_X11_⟩ hb_ hon hoff
     refine ⟨_, rfl, fun K hK => ?_⟩
     have e14 : a.tmps[14]? = some (.pointer (some ⟨gb201, 4, none⟩)) := by rw [ha]; exact (putSel_off rfl).trans rfl
     replace ha := ak ha; have BK201 := ak Q_BK201; have HB := ak Q_HB; have hc0_ : w'.cell? ⟨gb201, 0, none⟩ = some (.int .i64 a0_0) := (blk_cell BK201.out 0).trans rfl; have hc1_ : w'.cell? ⟨gb201, 1, none⟩ = some (.int .i64 a0_1) := (blk_cell BK201.out 1).trans rfl; have hc2_ : w'.cell? ⟨gb201, 2, none⟩ = some (.slice A0_2 l0_2.length c0_2) := (blk_cell BK201.out 2).trans rfl; have hc3_ : w'.cell? ⟨gb201, 3, none⟩ = some (.slice A0_3 l0_3.length c0_3) := (blk_cell BK201.out 3).trans rfl; have hc4_ : w'.cell? ⟨gb201, 4, none⟩ = some (.int .i64 a0_4) := (blk_cell BK201.out 4).trans rfl; refine value_ (w1 := w') (v := .int .i64 a0_4) (by rfl) rfl ?_ ?_
     · go_simp
       (try simp only [i64_w])
       try rfl
     refine hK.out _ _ ⟨v204, v207, v210, m11_, (by rw [ha.out]; exact putSel_upk 5 hb_ rfl rfl rfl), Q_BK201, Q_HB, Q_HO205, fun h0_ => absurd ((hoff 9 (by kernel_rfl)).symm.trans h0_) (by decide), fun h0_ => absurd ((hoff 10 (by kernel_rfl)).symm.trans h0_) (by decide), fun h0_ => absurd ((hoff 11 (by kernel_rfl)).symm.trans h0_) (by decide)⟩
   refine steps_cons ?_ ?_
   · rintro b a w' ⟨v204, v207, v210, m11_, ha, Q_BK201, Q_HB, Q_HO205, Q_HO208, Q_HO211, Q_X11_⟩ hb_ hon hoff
     refine ⟨_, rfl, fun K hK => ?_⟩
     have e15 : a.tmps[15]? = some (.int .i64 a0_4) := by rw [ha]; exact putSel_on (e := (8, 15, .int .i64 a0_4)) 5 rfl rfl (hon 8 (by kernel_rfl)) rfl
     replace ha := ak ha; have BK201 := ak Q_BK201; have HB := ak Q_HB; refine goes_ Try.func133 (by kernel_rfl) rfl #[.int .i64 a0_4] (by rfl) rfl rfl (by first | (simp only [List.map_toArray, List.map_cons, List.map_nil, Act.eval, Array.getD_eq_getD_getElem?, Option.getD_some, e15]; done) | (simp only [List.map_toArray, List.map_cons, List.map_nil, Act.eval, Array.getD_eq_getD_getElem?, Option.getD_some, e15]; rfl)) ?_
     with_reducible refine (spec_PutNumber.calls k a0_4 t206 _ A4.out).mono ?_
     rintro e w12 ⟨v207, rfl, ho0, hb⟩
     refine ⟨_, rfl, ?_⟩
     have n0_ := rL ho0; have n1_ := bB BK201 hb; have n2_ := bS hb; have z_HO205 := fun (h0_ : b 6 = true) => (show Kd.R (Kd.int .u8) 5 w12 w.heap.size (fun _ => True) v204 y203 from by first | exact (Kd.R_elder' (rE (Q_HO205 h0_)) (Kd.R_base ho0) hb) | exact Kd.R_mono (Kd.R_elder' (rE (Q_HO205 h0_)) (Kd.R_base ho0) hb) (fun _ h_ => by first | trivial | exact h_ | exact h_.1))
     clear BK201; clear HB; have HO208 := n0_; have BK201 := n1_; have HB := n2_; clear n0_ n1_ n2_; (try clear hb ho0); refine hK.out _ _ ⟨v204, v207, v210, m11_, (by rw [ha.out]; exact putSel_upk 6 hb_ rfl rfl rfl), blkA, belA, z_HO205, fun _ => (rF HO208), fun h0_ => absurd ((hoff 10 (by kernel_rfl)).symm.trans h0_) (by decide), fun h0_ => absurd ((hoff 11 (by kernel_rfl)).symm.trans h0_) (by decide)⟩
   refine steps_cons ?_ ?_
   · rintro b a w' ⟨v204, v207, v210, m11_, ha, Q_BK201, Q_HB, Q_HO205, Q_HO208, Q_HO211, Q_X11_⟩ hb_ hon hoff
     refine ⟨_, rfl, fun K hK => ?_⟩
     have e13 : a.tmps[13]? = some (v204) := by rw [ha]; exact putSel_on (e := (6, 13, v204)) 4 rfl rfl (hon 6 (by kernel_rfl)) rfl
     have e16 : a.tmps[16]? = some (v207) := by rw [ha]; exact putSel_on (e := (9, 16, v207)) 6 rfl rfl (hon 9 (by kernel_rfl)) rfl
     replace ha := ak ha; have BK201 := ak Q_BK201; have HB := ak Q_HB; have HO205 := ak (Q_HO205 (hon 6 (by kernel_rfl))); have HO208 := ak (Q_HO208 (hon 9 (by kernel_rfl))); obtain ⟨Ao16, co16, eo16⟩ := Kd.R_slice HO205.out; (first | subst eo16 | (injection eo16 with f1_ f2_ f3_; have f4_ := f1_.symm; have f5_ := f3_.symm; clear f1_ f2_ f3_; subst f4_; subst f5_))
     obtain ⟨Ao17, co17, eo17⟩ := Kd.R_slice HO208.out; (first | subst eo17 | (injection eo17 with f1_ f2_ f3_; have f4_ := f1_.symm; have f5_ := f3_.symm; clear f1_ f2_ f3_; subst f4_; subst f5_))
     refine goes_ Try.func75 (by kernel_rfl) rfl #[.slice Ao16 y203.length co16, .slice Ao17 t206.length co17] (by rfl) rfl rfl (by first | (simp only [List.map_toArray, List.map_cons, List.map_nil, Act.eval, Array.getD_eq_getD_getElem?, Option.getD_some, e13, e16]; done) | (simp only [List.map_toArray, List.map_cons, List.map_nil, Act.eval, Array.getD_eq_getD_getElem?, Option.getD_some, e13, e16]; rfl)) ?_
     with_reducible refine (spec_l01Join.calls k _ _ y203 _ _ t206 t209 _ ?side1 ?side2 ?side3 ?side4 A5.out).mono ?_
     (case side1 => exact cA ((Kd.R_reads' HO205.out).2.2))
     (case side2 => exact (Kd.R_reads' HO205.out).2.1)
     (case side3 => exact cA ((Kd.R_reads' HO208.out).2.2))
     (case side4 => exact (Kd.R_reads' HO208.out).2.1)
     rintro e w18 ⟨v210, rfl, ho0, hb⟩
     refine ⟨_, rfl, ?_⟩
     have HO211 := rL (Kd.R_new' (Kd.R_new' ho0 (Kd.R_lt (rF HO205))) (Kd.R_lt (rF HO208))); replace HO205 := ak (Kd.R_elder' (rF HO205) (Kd.R_base ho0) hb); replace HO208 := ak (Kd.R_elder' (rF HO208) (Kd.R_base ho0) hb); replace BK201 := bB BK201 hb; replace HB := bS hb; (try clear hb ho0); refine hK.out _ _ ⟨.slice Ao16 y203.length co16, .slice Ao17 t206.length co17, v210, m11_, (by rw [ha.out]; exact putSel_upk 7 hb_ rfl rfl rfl), blkA, belA, fun _ => (rF HO205), fun _ => (rF HO208), fun _ => (by (with_reducible repeat (first | apply Kd.R_alloc | apply Kd.R_drewN | apply Kd.R_drew)); first | exact Kd.R_mono HO211.out (fun _ hk => ⟨hk.1.2, hk.2⟩) | exact Kd.R_mono HO211.out (fun _ _ => trivial)), fun h0_ => absurd ((hoff 11 (by kernel_rfl)).symm.trans h0_) (by decide)⟩
   refine steps_cons ?_ ?_
   · rintro b a w' ⟨v204, v207, v210, m11_, ha, Q_BK201, Q_HB, Q_HO205, Q_HO208, Q_HO211, Q_X11_⟩ hb_ hon hoff
     refine ⟨_, rfl, fun K hK => ?_⟩
     have e17 : a.tmps[17]? = some (v210) := by rw [ha]; exact putSel_on (e := (10, 17, v210)) 7 rfl rfl (hon 10 (by kernel_rfl)) rfl
     replace ha := ak ha; have BK201 := ak Q_BK201; have HB := ak Q_HB; have HO205 := ak (Q_HO205 (hon 6 (by kernel_rfl))); have HO208 := ak (Q_HO208 (hon 9 (by kernel_rfl))); have HO211 := ak (Q_HO211 (hon 10 (by kernel_rfl))); refine value_ (w1 := w') (v := v210) (by rfl) rfl ?_ ?_
     · go_simp
       (try simp only [i64_w])
       try rfl
     refine hK.out _ _ ⟨v204, v207, v210, (v210), (by rw [ha.out]; exact putSel_upk 8 hb_ rfl rfl rfl), Q_BK201, Q_HB, Q_HO205, Q_HO208, Q_HO211, fun _ => rfl⟩
   exact steps_nil
 rintro b a w18 hall ⟨v204, v207, v210, m11_, ha, Q_BK201, Q_HB, Q_HO205, Q_HO208, Q_HO211, Q_X11_⟩
 clear BK201 HB; have hb1_ := hall 1 (by kernel_rfl); have hb2_ := hall 2 (by kernel_rfl); have hb4_ := hall 4 (by kernel_rfl); have hb5_ := hall 5 (by kernel_rfl); have hb6_ := hall 6 (by kernel_rfl); have hb8_ := hall 8 (by kernel_rfl); have hb9_ := hall 9 (by kernel_rfl); have hb10_ := hall 10 (by kernel_rfl); have hb11_ := hall 11 (by kernel_rfl); subst ha; obtain rfl := Q_X11_ hb11_; simp only [putSel, hb1_, hb2_, hb4_, hb5_, hb6_, hb8_, hb9_, hb10_, hb11_, if_true, Act.put, sa, sb, sc]
 have BK201 := ak Q_BK201; clear Q_BK201; have HB := ak Q_HB; clear Q_HB; have HO205 := ak (Q_HO205 hb6_); clear Q_HO205; have HO208 := ak (Q_HO208 hb9_); clear Q_HO208; have HO211 := ak (Q_HO211 hb10_); clear Q_HO211; clear hall hb1_ hb2_ hb4_ hb5_ hb6_ hb8_ hb9_ hb10_ hb11_; try go_wp2
 replace HO205 := ak (Kd.R_drew HO205.out); replace HO208 := ak (Kd.R_drew HO208.out); replace HO211 := ak (Kd.R_drew HO211.out); replace BK201 := ak (blk_drew BK201.out); replace HB := ak (below_drew1 HB.out); obtain ⟨Ao20, co20, eo20⟩ := Kd.R_slice HO211.out; (first | subst eo20 | (injection eo20 with f1_ f2_ f3_; have f4_ := f1_.symm; have f5_ := f3_.symm; clear f1_ f2_ f3_; subst f4_; subst f5_))
 refine start_ (n := 8) (S := fun w' => w'.cell? ⟨gb201, 0, none⟩ = some (.int .i64 a0_0) ∧ w'.cell? ⟨gb201, 1, none⟩ = some (.int .i64 a0_1) ∧ w'.cell? ⟨gb201, 2, none⟩ = some (.slice A0_2 l0_2.length c0_2) ∧ w'.cell? ⟨gb201, 3, none⟩ = some (.slice A0_3 l0_3.length c0_3) ∧ w'.cell? ⟨gb201, 4, none⟩ = some (.int .i64 a0_4)) (ds := []) #[false, false, false, false, false, false, false, false] (by kernel_rfl) rfl rfl ⟨(blk_cell BK201.out 0).trans rfl, (blk_cell BK201.out 1).trans rfl, (blk_cell BK201.out 2).trans rfl, (blk_cell BK201.out 3).trans rfl, (blk_cell BK201.out 4).trans rfl⟩ (fun hHeld => ?_); refine with_tabW spec_EncodeJob.tab4 spec_EncodeJob.bits4 (fun HT_ HW_ => ?_)
 generalize w18.drew = w19 at HO205 HO208 HO211 BK201 HB hHeld ⊢
 refine pure_ (i := 0) (N := some 18) (v := ?_) (a' := ?_) #[true, false, false, false, false, false, false, false] rfl rfl (any_of HT_.out (by kernel_rfl)) (fun _ _ _ h => h) (Or.inl ⟨by rfl, ?_⟩) ?_ ?_
 rotate_left
 · intro w'; go_simp
   with_reducible rfl
 rotate_left
 · simp only [Act.put, sa, sb, sc, i64_w, i32_w]
   rfl
 refine pure_ (i := 1) (N := some 19) (v := ?_) (a' := ?_) #[true, true, false, false, false, false, false, false] rfl rfl (any_of HT_.out (by kernel_rfl)) (fun _ _ _ h => h) (Or.inl ⟨by rfl, ?_⟩) ?_ ?_
 rotate_left
 · intro w'; go_simp
   with_reducible rfl
 rotate_left
 · simp only [Act.put, sa, sb, sc, i64_w, i32_w]
   rfl
 refine pure_ (i := 4) (N := some 22) (v := ?_) (a' := ?_) #[true, true, false, false, true, false, false, false] rfl rfl (any_of HT_.out (by kernel_rfl)) (fun _ _ _ h => h) (Or.inl ⟨by rfl, ?_⟩) ?_ ?_
 rotate_left
 · intro w'; go_simp
   with_reducible rfl
 rotate_left
 · simp only [Act.put, sa, sb, sc, i64_w, i32_w]
   rfl
 refine take_ (i := 2) (N := some 20) (v := ?_) (a' := ?_) #[true, true, true, false, true, false, false, false] rfl rfl (take_ofW HT_.out HW_.out (by kernel_rfl)) (fun _ _ _ h => h) (Or.inl ⟨by rfl, ?_⟩) hHeld ?_ ?_
 rotate_left
 · rintro w' ⟨s0, s1, s2, s3, s4⟩
   go_simp
   with_reducible rfl
 rotate_left
 · simp only [Act.put, sa, sb, sc, i64_w, i32_w]
   rfl
 refine take_ (i := 5) (N := some 23) (v := ?_) (a' := ?_) #[true, true, true, false, true, true, false, false] rfl rfl (take_ofW HT_.out HW_.out (by kernel_rfl)) (fun _ _ _ h => h) (Or.inl ⟨by rfl, ?_⟩) hHeld ?_ ?_
 rotate_left
 · rintro w' ⟨s0, s1, s2, s3, s4⟩
   go_simp
   with_reducible rfl
 rotate_left
 · simp only [Act.put, sa, sb, sc, i64_w, i32_w]
   rfl
 refine one_ (i := 3) (N := some 21) #[true, true, true, true, true, true, false, false] rfl rfl (one_of HT_.out (by kernel_rfl)) (by decide) (fun K hK => ?_)
 refine goes_ Try.func134 (by kernel_rfl) rfl #[.slice Ao20 t209.length co20, .slice A0_2 l0_2.length c0_2] (by rfl) rfl rfl xq8 ?_
 with_reducible refine (spec_l10PutList.calls k _ _ t209 _ _ l0_2 t212 _ ?side1 ?side2 ?side3 ?side4 A6.out).mono ?_
 (case side1 => exact cA ((Kd.R_reads' HO211.out).2.2))
 (case side2 => exact (Kd.R_reads' HO211.out).2.1)
 (case side3 => exact cA (Kd.C_below HR0_2.out HB.out))
 (case side4 => exact HC0_2.out)
 rintro e w21 ⟨v213, rfl, ho0, hb⟩
 refine ⟨_, rfl, ?_⟩
 have HO214 := rL (Kd.R_new' (Kd.R_new' (Kd.R_new' ho0 (Kd.R_lt (rF HO205))) (Kd.R_lt (rF HO208))) (Kd.R_lt (rF HO211))); replace HO205 := ak (Kd.R_elder' (rF HO205) (Kd.R_base ho0) hb); replace HO208 := ak (Kd.R_elder' (rF HO208) (Kd.R_base ho0) hb); replace HO211 := ak (Kd.R_elder' (rF HO211) (Kd.R_base ho0) hb); replace BK201 := bB BK201 hb; replace HB := bS hb; (try clear hb ho0); obtain ⟨Ao22, co22, eo22⟩ := Kd.R_slice HO214.out; (first | subst eo22 | (injection eo22 with f1_ f2_ f3_; have f4_ := f1_.symm; have f5_ := f3_.symm; clear f1_ f2_ f3_; subst f4_; subst f5_))
 refine hK.out _ _ ⟨(blk_cell BK201.out 0).trans rfl, (blk_cell BK201.out 1).trans rfl, (blk_cell BK201.out 2).trans rfl, (blk_cell BK201.out 3).trans rfl, (blk_cell BK201.out 4).trans rfl⟩ (fun hHeld => ?_)
 clear hK K; refine norm_ (a' := ?_) ?_ ?_
 rotate_left
 · show Act.put _ (some 21) _ = _
   simp only [Act.put, sa, sb, sc, i64_w, i32_w]
   rfl
 refine one_ (i := 6) (N := some 24) #[true, true, true, true, true, true, true, false] rfl rfl (one_of HT_.out (by kernel_rfl)) (by decide) (fun K hK => ?_)
 refine goes_ Try.func134 (by kernel_rfl) rfl #[.slice Ao22 t212.length co22, .slice A0_3 l0_3.length c0_3] (by rfl) rfl rfl xq8 ?_
 with_reducible refine (spec_l10PutList.calls k _ _ t212 _ _ l0_3 t215 _ ?side1 ?side2 ?side3 ?side4 A7.out).mono ?_
 (case side1 => exact cA ((Kd.R_reads' HO214.out).2.2))
 (case side2 => exact (Kd.R_reads' HO214.out).2.1)
 (case side3 => exact cA (Kd.C_below HR0_3.out HB.out))
 (case side4 => exact HC0_3.out)
 rintro e w23 ⟨v216, rfl, ho0, hb⟩
 refine ⟨_, rfl, ?_⟩
 have HO217 := rL (Kd.R_new' (Kd.R_new' (Kd.R_new' (Kd.R_new' ho0 (Kd.R_lt (rF HO205))) (Kd.R_lt (rF HO208))) (Kd.R_lt (rF HO211))) (Kd.R_lt (rF HO214))); replace HO205 := ak (Kd.R_elder' (rF HO205) (Kd.R_base ho0) hb); replace HO208 := ak (Kd.R_elder' (rF HO208) (Kd.R_base ho0) hb); replace HO211 := ak (Kd.R_elder' (rF HO211) (Kd.R_base ho0) hb); replace HO214 := ak (Kd.R_elder' (rF HO214) (Kd.R_base ho0) hb); replace BK201 := bB BK201 hb; replace HB := bS hb; (try clear hb ho0); refine hK.out _ _ ⟨(blk_cell BK201.out 0).trans rfl, (blk_cell BK201.out 1).trans rfl, (blk_cell BK201.out 2).trans rfl, (blk_cell BK201.out 3).trans rfl, (blk_cell BK201.out 4).trans rfl⟩ (fun hHeld => ?_)
 clear hK K; refine norm_ (a' := ?_) ?_ ?_
 rotate_left
 · show Act.put _ (some 24) _ = _
   simp only [Act.put, sa, sb, sc, i64_w, i32_w]
   rfl
 refine pure_ (i := 7) (N := some 2) (v := ?_) (a' := ?_) #[true, true, true, true, true, true, true, true] rfl rfl (any_of HT_.out (by kernel_rfl)) (fun _ _ _ h => h) (Or.inl ⟨by rfl, ?_⟩) ?_ ?_
 rotate_left
 · intro w'; go_simp
   with_reducible rfl
 rotate_left
 · simp only [Act.put, sa, sb, sc, i64_w, i32_w]
   rfl
 refine done_ (done_of HT_.out (by kernel_rfl)) ?_
 try go_wp2
 go_ret
 exact ⟨_, xq1, by (with_reducible repeat (first | apply Kd.R_alloc | apply Kd.R_drewN | apply Kd.R_drew)); exact Kd.R_mono HO217.out (fun _ hk => trivial), belA⟩

end Go.Proofs.Ytbojabmpcfclhaa.PFnExactPackJobs

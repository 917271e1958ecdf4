-- Written by a program of this session (the print of the kit with contracts of this session's own added)
import Derived.Test.YtbojabmpcfclhaaZFEFx0
import Derived.Test.YtbojabmpcfclhaaZFEFx1
import Derived.Test.YtbojabmpcfclhaaZFEFx2
import Derived.Test.YtbojabmpcfclhaaZFEFV
namespace Go.Proofs.Ytbojabmpcfclhaa.PFnExactFeed
open Go.RowKit Go.Proofs.YtbojabmpcfclhaaW.PrintWords Go.Proofs.YtbojabmpcfclhaaW.PrintLast Go.Proofs.YtbojabmpcfclhaaW.PrintMore Go.Proofs.YtbojabmpcfclhaaW.PrintPack
attribute [local go_sem] max2_int min2_int max_two min_two max_three min_three max_four min_four   -- for this text's walks alone
set_option linter.unusedVariables false
set_option linter.unusedSimpArgs false

/-! ### spec_DecodeFrame: function 107 -/
def spec_DecodeFrame.l0 : Nat → List Int → Int → List Int → Int → Int → Int → Option (Int × Int × List Int × Int × Int)
 | 0, _, _, _, _, _, _ => none
 | k + 1, x0, x6, x7, x8, x133000, x133001 => if x8 < 4 then (if (wrap64 (x6 + x8)) = (x0.length : Int) then (some (x133000, x133001, ([] : List Int), 0, 1)) else (if 0 ≤ (wrap64 (x6 + x8)) then (if (wrap64 (x6 + x8)) < (x0.length : Int) then (if 0 ≤ x8 then (if x8 < (x7.length : Int) then (if (rd x0 (wrap64 (x6 + x8))) = (rd x7 x8) then (spec_DecodeFrame.l0 k x0 x6 x7 (wrap64 (x8 + 1)) x133000 x133001) else (some (x133000, x133001, ([] : List Int), 0, 2))) else (none)) else (none)) else (none)) else (none))) else (if 2 < (x0.length : Int) then (if 3 ≤ 7 then (if 7 ≤ (x0.length : Int) then ((spec_l11Read.f k ((x0.take 7).drop 3)).bind fun t143 => (if 9 ≤ x6 then (if x6 ≤ (x0.length : Int) then ((spec_l01Bytes.f k ((x0.take (x6 : Int).toNat).drop 9)).bind fun t145 => (some (wrap64 (rd x0 2), t143, t145, wrap64 (x6 + 4), 0))) else (none)) else (none))) else (none)) else (none)) else (none))
def spec_DecodeFrame.f (k : Nat) (l0 : List Int) : Option (Int × Int × List Int × Int × Int) := (spec_l11Head.f k l0).bind fun t133 => (if t133 = true then (if (l0.length : Int) < 9 then (some (0, 0, ([] : List Int), 0, 1)) else (if 7 ≤ 9 then (if 9 ≤ (l0.length : Int) then ((spec_l11Read.f k ((l0.take 9).drop 7)).bind fun t135 => (if (l0.length : Int) < (wrap64 (9 + t135)) then (some (0, 0, ([] : List Int), 0, 1)) else (if 2 ≤ (wrap64 (9 + t135)) then (if (wrap64 (9 + t135)) ≤ (l0.length : Int) then ((spec_CheckSum.f k ((l0.take ((wrap64 (9 + t135)) : Int).toNat).drop 2)).bind fun t137 => ((spec_l11Wide.f k t137 4).bind fun t138 => (spec_DecodeFrame.l0 k l0 (wrap64 (9 + t135)) t138 0 0 0))) else (none)) else (none)))) else (none)) else (none))) else (some (0, 0, ([] : List Int), 0, 2)))
theorem spec_DecodeFrame.mono_l : ∀ k, (∀ y0 y1 y2 y3 y4 y5, LeO (spec_DecodeFrame.l0 k y0 y1 y2 y3 y4 y5) (spec_DecodeFrame.l0 (k + 1) y0 y1 y2 y3 y4 y5))
 | 0 => fun _ _ _ _ _ _ r h => by simp [spec_DecodeFrame.l0] at h
 | k + 1 => by
  have ih0 := spec_DecodeFrame.mono_l k
  · intro y0 y1 y2 y3 y4 y5
    unfold spec_DecodeFrame.l0
    repeat' first
    | (with_reducible exact ih0 _ _ _ _ _ _)
    | (with_reducible exact spec_CheckSum.mono _ _)
    | (with_reducible exact spec_l01Bytes.mono _ _)
    | (with_reducible exact spec_l11Head.mono _ _)
    | (with_reducible exact spec_l11Read.mono _ _)
    | (with_reducible exact spec_l11Wide.mono _ _ _)
    | (with_reducible exact LeO.refl _)
    | (with_reducible exact LeO.none _)
    | (with_reducible refine LeO.ite ?_ ?_)
    | (with_reducible refine LeO.bind ?_ (fun _ => ?_))
    | exact ih0 _ _ _ _ _ _
    | exact spec_CheckSum.mono _ _
    | exact spec_l01Bytes.mono _ _
    | exact spec_l11Head.mono _ _
    | exact spec_l11Read.mono _ _
    | exact spec_l11Wide.mono _ _ _
    | exact LeO.none _
    | refine LeO.ite ?_ ?_
    | refine LeO.bind ?_ (fun _ => ?_)
theorem spec_DecodeFrame.mono : ∀ a0 k, LeO (spec_DecodeFrame.f k a0) (spec_DecodeFrame.f (k + 1) a0) := by
 intro a0 k; have ih0 := spec_DecodeFrame.mono_l k
 unfold spec_DecodeFrame.f
 repeat' first
  | (with_reducible exact ih0 _ _ _ _ _ _)
  | (with_reducible exact spec_CheckSum.mono _ _)
  | (with_reducible exact spec_l01Bytes.mono _ _)
  | (with_reducible exact spec_l11Head.mono _ _)
  | (with_reducible exact spec_l11Read.mono _ _)
  | (with_reducible exact spec_l11Wide.mono _ _ _)
  | (with_reducible exact LeO.refl _)
  | (with_reducible exact LeO.none _)
  | (with_reducible refine LeO.ite ?_ ?_)
  | (with_reducible refine LeO.bind ?_ (fun _ => ?_))
  | exact ih0 _ _ _ _ _ _
  | exact spec_CheckSum.mono _ _
  | exact spec_l01Bytes.mono _ _
  | exact spec_l11Head.mono _ _
  | exact spec_l11Read.mono _ _
  | exact spec_l11Wide.mono _ _ _
  | exact LeO.none _
  | refine LeO.ite ?_ ?_
  | refine LeO.bind ?_ (fun _ => ?_)
def spec_DecodeFrame.T15 : Bool × List (List Nat × List Nat) := (true, [([], []), ([], []), ([], []), ([1, 2], [1, 2]), ([0, 3], [0, 3]), ([4], [4]), ([], []), ([], []), ([6, 7], [6, 7]), ([8], [8]), ([5, 9], [5, 9])])
def spec_DecodeFrame.B15 : List Nat := [0, 0, 0, 6, 15, 31, 0, 0, 192, 448, 1023]
theorem spec_DecodeFrame.tab15 : rtab .any (opsOf Try.f107 15) = spec_DecodeFrame.T15 := by kernel_rfl
theorem spec_DecodeFrame.bits15 : waitsOk spec_DecodeFrame.T15.2 spec_DecodeFrame.B15 = true := by kernel_rfl
def spec_DecodeFrame.T17 : Bool × List (List Nat × List Nat) := (true, [([], []), ([0], [0]), ([1], [1]), ([2], [2]), ([], []), ([4], [4]), ([5], [5]), ([], []), ([], []), ([7, 8], [7, 8]), ([9, 6], [9]), ([3, 6, 10], [3, 6, 10]), ([], []), ([12], [12]), ([11, 10, 0, 1, 2, 3, 4, 5, 6, 7, 8, 9, 10, 11], [11]), ([13, 14, 0, 1, 2, 3, 4, 5, 6, 7, 8, 9, 10, 11, 12, 13, 14], [13]), ([15, 0, 1, 2, 3, 4, 5, 6, 7, 8, 9, 10, 11, 12, 13, 14, 15], [])])
def spec_DecodeFrame.B17 : List Nat := [0, 1, 3, 7, 0, 16, 48, 0, 0, 384, 1008, 2047, 0, 4096, 4095, 32767, 65535]
theorem spec_DecodeFrame.tab17 : rtab .any (opsOf Try.f107 17) = spec_DecodeFrame.T17 := by kernel_rfl
theorem spec_DecodeFrame.bits17 : waitsOk spec_DecodeFrame.T17.2 spec_DecodeFrame.B17 = true := by kernel_rfl
set_option maxHeartbeats 8000000 in
set_option maxRecDepth 100000 in
theorem spec_DecodeFrame.calls (k : Nat) (A0 : Option Addr) (c0 : Nat) (l0 : List Int) (r1 : Int) (r2 : Int) (r3 : List Int) (r4 : Int) (r5 : Int) (w : World) (hr0 : Kd.C (Kd.int .u8) w A0 l0.length l0) (hc0 : l0.length ≤ c0) (h : spec_DecodeFrame.f k l0 = some (r1, r2, r3, r4, r5)) :
 Calls Try.prog 107 #[.slice A0 l0.length c0] w fun e w' => ∃ v2_ : Value, e = .returned (.tuple #[.agg #[.int .i64 r1, .int .i64 r2, v2_], .int .i64 r4, .int .i64 r5]) ∧ Kd.R (Kd.int .u8) 5 w' w.heap.size (fun _ => True) v2_ r3 ∧ Below w.heap.size w w' := by
 have hu109 := Try.underlying109; have HR0 := Aside0.mk hr0; have HC0 := Aside0.mk hc0; clear hr0 hc0; have HB := Aside0.mk (Below.refl w.heap.size w); have H : ((spec_l11Head.f k l0).bind fun t133 => (if t133 = true then (if (l0.length : Int) < 9 then (some (0, 0, ([] : List Int), 0, 1)) else (if 7 ≤ 9 then (if 9 ≤ (l0.length : Int) then ((spec_l11Read.f k ((l0.take 9).drop 7)).bind fun t135 => (if (l0.length : Int) < (wrap64 (9 + t135)) then (some (0, 0, ([] : List Int), 0, 1)) else (if 2 ≤ (wrap64 (9 + t135)) then (if (wrap64 (9 + t135)) ≤ (l0.length : Int) then ((spec_CheckSum.f k ((l0.take ((wrap64 (9 + t135)) : Int).toNat).drop 2)).bind fun t137 => ((spec_l11Wide.f k t137 4).bind fun t138 => (spec_DecodeFrame.l0 k l0 (wrap64 (9 + t135)) t138 0 0 0))) else (none)) else (none)))) else (none)) else (none))) else (some (0, 0, ([] : List Int), 0, 2)))) = some (r1, r2, r3, r4, r5) := h; clear h; replace H := Option.bind_eq_some_iff.mp H; obtain ⟨t133, A20, H⟩ := H; replace H : (if t133 = true then (if (l0.length : Int) < 9 then (some (0, 0, ([] : List Int), 0, 1)) else (if 7 ≤ 9 then (if 9 ≤ (l0.length : Int) then ((spec_l11Read.f k ((l0.take 9).drop 7)).bind fun t135 => (if (l0.length : Int) < (wrap64 (9 + t135)) then (some (0, 0, ([] : List Int), 0, 1)) else (if 2 ≤ (wrap64 (9 + t135)) then (if (wrap64 (9 + t135)) ≤ (l0.length : Int) then ((spec_CheckSum.f k ((l0.take ((wrap64 (9 + t135)) : Int).toNat).drop 2)).bind fun t137 => ((spec_l11Wide.f k t137 4).bind fun t138 => (spec_DecodeFrame.l0 k l0 (wrap64 (9 + t135)) t138 0 0 0))) else (none)) else (none)))) else (none)) else (none))) else (some (0, 0, ([] : List Int), 0, 2))) = some (r1, r2, r3, r4, r5) := H
 have A2 := Aside0.mk A20; clear A20
 by_cases c3 : t133 = true
 · subst c3; have H1 : (if (l0.length : Int) < 9 then (some (0, 0, ([] : List Int), 0, 1)) else (if 7 ≤ 9 then (if 9 ≤ (l0.length : Int) then ((spec_l11Read.f k ((l0.take 9).drop 7)).bind fun t135 => (if (l0.length : Int) < (wrap64 (9 + t135)) then (some (0, 0, ([] : List Int), 0, 1)) else (if 2 ≤ (wrap64 (9 + t135)) then (if (wrap64 (9 + t135)) ≤ (l0.length : Int) then ((spec_CheckSum.f k ((l0.take ((wrap64 (9 + t135)) : Int).toNat).drop 2)).bind fun t137 => ((spec_l11Wide.f k t137 4).bind fun t138 => (spec_DecodeFrame.l0 k l0 (wrap64 (9 + t135)) t138 0 0 0))) else (none)) else (none)))) else (none)) else (none))) = some (r1, r2, r3, r4, r5) := by rw [if_pos rfl] at H; exact H
   clear H; have H := H1; clear H1
   by_cases c4 : (l0.length : Int) < 9
   · rw [if_pos c4] at H; have c4b0 := decide_eq_true c4; have c4b1 : decide (l0.length < 9) = true := decide_eq_true (by omega); clear c4; simp only [Option.some.injEq, Prod.mk.injEq] at H; obtain ⟨rfl, rfl, rfl, rfl, rfl⟩ := H; go_enter Try.func107, Try.ntmps107
     go_wp2_with (first | ((with_reducible refine gate_dst (N := 2) rfl ?_); refine boxA 2 #[.int .i64 0, .int .i64 0, .slice none 0 0] 109 ?_; intro gb131 hg w5 hbox hb; have BK131 := Aside0.mk hbox; have GW131 := leA (w := w) hg; have GE131 := leA (w := w) hg; replace HB := bS hb; clear hb hbox hg) | ((with_reducible refine gate_dst (N := 5) rfl ?_); refine boxA 5 #[.int .i64 0, .int .i64 0, .slice none 0 0] 109 ?_; intro gb132 hg w6 hbox hb; have BK132 := Aside0.mk hbox; have GW132 := leA (w := w) hg; have GE132 := leA (w := w) hg; have NB131_132 := neL hg BK131; have NB132_131 := neG hg BK131; replace BK131 := bB BK131 hb; replace HB := bS hb; clear hb hbox hg; have hnb7 := NB132_131.out; have hnc7 := NB131_132.out; obtain ⟨hcz8_0, hcz8_1, hcz8_2, hfz8_0, hfz8_1, hfz8_2⟩ := cel3 BK132) | ((with_reducible refine gate_callee (f := 149) rfl ?_); refine goesL_ (some 11) rfl rfl Try.func149 (by kernel_rfl) rfl #[.slice A0 l0.length c0] rfl (by (try simp only [List.map_toArray, List.map_cons, List.map_nil]); first | done | rfl | (simp only [List.length_drop, List.length_take]; rfl) | (simp only [Int.tmod_eq_emod_of_nonneg (Int.natCast_nonneg _)]; done) | (simp only [Int.tmod_eq_emod_of_nonneg (Int.natCast_nonneg _)]; rfl)) ?_; (with_reducible refine (spec_l11Head.calls k _ _ l0 true _ ?side1 ?side2 A2.out).mono ?_); (case side1 => exact Kd.C_below HR0.out belA); (case side2 => exact HC0.out); rintro e w' ⟨rfl, ⟨nd, rfl⟩⟩; refine ⟨_, rfl, ?_⟩; obtain ⟨hcz9_0, hcz9_1, hcz9_2, hfz9_0, hfz9_1, hfz9_2⟩ := cel3 BK131))
     refine bodyPost_ret (results_ctt rfl _ _ gb131 109 #[.int .i64 0, .int .i64 0, .slice none 0 0] (0, 0) _ rfl (by (with_reducible repeat (first | refine blk_drewN ?_ _ | refine blk_drew ?_ | refine blk_alloc ?_ _)); refine blk_put (cs := #[.int .i64 0, .int .i64 0, .slice none 0 0]) ?_ 2 _ rfl; (with_reducible repeat (first | refine blk_drewN ?_ _ | refine blk_drew ?_ | refine blk_alloc ?_ _)); refine blk_put (cs := #[.int .i64 0, .int .i64 0, .slice none 0 0]) ?_ 1 _ rfl; (with_reducible repeat (first | refine blk_drewN ?_ _ | refine blk_drew ?_ | refine blk_alloc ?_ _)); refine blk_put (cs := #[.int .i64 0, .int .i64 0, .slice none 0 0]) ?_ 0 _ rfl; (with_reducible repeat (first | refine blk_drewN ?_ _ | refine blk_drew ?_ | refine blk_alloc ?_ _)); refine blk_far ?_ NB131_132.out _; (with_reducible repeat (first | refine blk_drewN ?_ _ | refine blk_drew ?_ | refine blk_alloc ?_ _)); refine blk_far ?_ NB131_132.out _; (with_reducible repeat (first | refine blk_drewN ?_ _ | refine blk_drew ?_ | refine blk_alloc ?_ _)); refine blk_far ?_ NB131_132.out _; (with_reducible repeat (first | refine blk_drewN ?_ _ | refine blk_drew ?_ | refine blk_alloc ?_ _)); exact BK131.out) Try.underlying109 rfl (by kernel_rfl)) rfl ?_
     exact ⟨_, by first | rfl | (simp [errW_none, errW_some] <;> rfl) | (simp [*, errW_none, errW_some] <;> rfl) | (simp [wrap64]; done) | (simp [*, wrap64]; done), by first | exact Kd.R_nil _ _ _ _ _ | exact Kd.N_nil _ _ _ _ _ | exact Kd.V_nil _ _ _ _ _ | exact Kd.Q_nil _ _ _ _ _ | exact Kd.S_nil _ _ _ _ _, belA⟩
   · rw [if_neg c4] at H; have c4b0 := decide_eq_false c4; have c4b1 : decide (l0.length < 9) = false := decide_eq_false (by omega); clear c4
     by_cases c10 : 7 ≤ 9
     · rw [if_pos c10] at H; have c10b0 := eq_true c10; have c10b1 : decide (7 ≤ 9) = true := decide_eq_true c10; clear c10
       by_cases c11 : 9 ≤ (l0.length : Int)
       · rw [if_pos c11] at H; have c11b0 := eq_true c11; have c11b1 : decide (9 ≤ (l0.length : Int)) = true := decide_eq_true c11; clear c11; replace H := Option.bind_eq_some_iff.mp H; obtain ⟨t135, A120, H⟩ := H; replace H : (if (l0.length : Int) < (wrap64 (9 + t135)) then (some (0, 0, ([] : List Int), 0, 1)) else (if 2 ≤ (wrap64 (9 + t135)) then (if (wrap64 (9 + t135)) ≤ (l0.length : Int) then ((spec_CheckSum.f k ((l0.take ((wrap64 (9 + t135)) : Int).toNat).drop 2)).bind fun t137 => ((spec_l11Wide.f k t137 4).bind fun t138 => (spec_DecodeFrame.l0 k l0 (wrap64 (9 + t135)) t138 0 0 0))) else (none)) else (none))) = some (r1, r2, r3, r4, r5) := H
         have A12 := Aside0.mk A120; clear A120
         by_cases c13 : (l0.length : Int) < (wrap64 (9 + t135))
         · rw [if_pos c13] at H; have c13b0 := decide_eq_true c13; have c13b0w : decide ((l0.length : Int) < (IntKind.i64.wrap (9 + t135))) = true := by simp only [i64_w]; exact c13b0
           clear c13; simp only [Option.some.injEq, Prod.mk.injEq] at H; obtain ⟨rfl, rfl, rfl, rfl, rfl⟩ := H; go_enter Try.func107, Try.ntmps107
           go_wp2_with (first | ((with_reducible refine gate_dst (N := 2) rfl ?_); refine boxA 2 #[.int .i64 0, .int .i64 0, .slice none 0 0] 109 ?_; intro gb131 hg w14 hbox hb; have BK131 := Aside0.mk hbox; have GW131 := leA (w := w) hg; have GE131 := leA (w := w) hg; replace HB := bS hb; clear hb hbox hg) | ((with_reducible refine gate_dst (N := 5) rfl ?_); refine boxA 5 #[.int .i64 0, .int .i64 0, .slice none 0 0] 109 ?_; intro gb132 hg w15 hbox hb; have BK132 := Aside0.mk hbox; have GW132 := leA (w := w) hg; have GE132 := leA (w := w) hg; have NB131_132 := neL hg BK131; have NB132_131 := neG hg BK131; replace BK131 := bB BK131 hb; replace HB := bS hb; clear hb hbox hg; have hnb16 := NB132_131.out; have hnc16 := NB131_132.out; obtain ⟨hcz17_0, hcz17_1, hcz17_2, hfz17_0, hfz17_1, hfz17_2⟩ := cel3 BK132) | ((with_reducible refine gate_callee (f := 149) rfl ?_); refine goesL_ (some 11) rfl rfl Try.func149 (by kernel_rfl) rfl #[.slice A0 l0.length c0] rfl (by (try simp only [List.map_toArray, List.map_cons, List.map_nil]); first | done | rfl | (simp only [List.length_drop, List.length_take]; rfl) | (simp only [Int.tmod_eq_emod_of_nonneg (Int.natCast_nonneg _)]; done) | (simp only [Int.tmod_eq_emod_of_nonneg (Int.natCast_nonneg _)]; rfl)) ?_; (with_reducible refine (spec_l11Head.calls k _ _ l0 true _ ?side1 ?side2 A2.out).mono ?_); (case side1 => exact Kd.C_below HR0.out belA); (case side2 => exact HC0.out); rintro e w' ⟨rfl, ⟨nd, rfl⟩⟩; refine ⟨_, rfl, ?_⟩; obtain ⟨i018, hi018, _, hsz18, _⟩ := info_parts info5; obtain ⟨A18, hcut18, hA18, hC18⟩ := print_mid_of (P := Try.prog) (Value.int .u8) 0 22 5 .i64 .i64 Try.underlying22 hi018 hsz18 A0 c0 l0 7 9 (by omega) (by first | omega | exact odA) (odA) HC0.out; have HR134 := Aside0.mk (Kd.C_of_reads (h1 := fun _ => rfl) (hA18 _ (Kd.reads_of_C HR0.out))); have HC134 := Aside0.mk hC18; clear hA18 hC18 hi018 hsz18) | ((with_reducible refine gate_callee (f := 150) rfl ?_); refine goesL_ (some 20) rfl rfl Try.func150 (by kernel_rfl) rfl #[.slice A18 ((l0.take 9).drop 7).length (c0 - 7)] rfl (by (try simp only [List.map_toArray, List.map_cons, List.map_nil]); first | done | ((try simp only [hji36]); rfl) | (simp only [List.length_drop, List.length_take]; (try simp only [hji36]); rfl) | (rw [show ((l0.take 9).drop 7).length = (9 - 7) from (by rw [List.length_drop, List.length_take]; have h_ : (9 : Int) ≤ (l0.length : Int) := odA; omega)] <;> rfl) | rfl | (simp only [List.length_drop, List.length_take]; rfl)) ?_; (with_reducible refine (spec_l11Read.calls k _ _ ((l0.take 9).drop 7) t135 _ ?side1 ?side2 A12.out).mono ?_); (case side1 => exact Kd.C_below HR134.out belA); (case side2 => exact HC134.out); rintro e w' ⟨rfl, ⟨nd, rfl⟩⟩; refine ⟨_, rfl, ?_⟩; obtain ⟨hcz19_0, hcz19_1, hcz19_2, hfz19_0, hfz19_1, hfz19_2⟩ := cel3 BK131))
           refine bodyPost_ret (results_ctt rfl _ _ gb131 109 #[.int .i64 0, .int .i64 0, .slice none 0 0] (0, 0) _ rfl (by (with_reducible repeat (first | refine blk_drewN ?_ _ | refine blk_drew ?_ | refine blk_alloc ?_ _)); refine blk_put (cs := #[.int .i64 0, .int .i64 0, .slice none 0 0]) ?_ 2 _ rfl; (with_reducible repeat (first | refine blk_drewN ?_ _ | refine blk_drew ?_ | refine blk_alloc ?_ _)); refine blk_put (cs := #[.int .i64 0, .int .i64 0, .slice none 0 0]) ?_ 1 _ rfl; (with_reducible repeat (first | refine blk_drewN ?_ _ | refine blk_drew ?_ | refine blk_alloc ?_ _)); refine blk_put (cs := #[.int .i64 0, .int .i64 0, .slice none 0 0]) ?_ 0 _ rfl; (with_reducible repeat (first | refine blk_drewN ?_ _ | refine blk_drew ?_ | refine blk_alloc ?_ _)); refine blk_far ?_ NB131_132.out _; (with_reducible repeat (first | refine blk_drewN ?_ _ | refine blk_drew ?_ | refine blk_alloc ?_ _)); refine blk_far ?_ NB131_132.out _; (with_reducible repeat (first | refine blk_drewN ?_ _ | refine blk_drew ?_ | refine blk_alloc ?_ _)); refine blk_far ?_ NB131_132.out _; (with_reducible repeat (first | refine blk_drewN ?_ _ | refine blk_drew ?_ | refine blk_alloc ?_ _)); exact BK131.out) Try.underlying109 rfl (by kernel_rfl)) rfl ?_
           exact ⟨_, by first | rfl | (simp [errW_none, errW_some] <;> rfl) | (simp [*, errW_none, errW_some] <;> rfl) | (simp [wrap64]; done) | (simp [*, wrap64]; done), by first | exact Kd.R_nil _ _ _ _ _ | exact Kd.N_nil _ _ _ _ _ | exact Kd.V_nil _ _ _ _ _ | exact Kd.Q_nil _ _ _ _ _ | exact Kd.S_nil _ _ _ _ _, belA⟩
         · rw [if_neg c13] at H; have c13b0 := decide_eq_false c13; have c13b0w : decide ((l0.length : Int) < (IntKind.i64.wrap (9 + t135))) = false := by simp only [i64_w]; exact c13b0
           clear c13
           by_cases c20 : 2 ≤ (wrap64 (9 + t135))
           · rw [if_pos c20] at H; have c20b0 := eq_true c20; have c20b1 : decide (2 ≤ (wrap64 (9 + t135))) = true := decide_eq_true c20; have c20b1w : decide (2 ≤ (IntKind.i64.wrap (9 + t135))) = true := by simp only [i64_w]; exact c20b1
             by_cases c21 : (wrap64 (9 + t135)) ≤ (l0.length : Int)
             · rw [if_pos c21] at H; have c21b0 := eq_true c21; have c21b1 : decide ((wrap64 (9 + t135)) ≤ (l0.length : Int)) = true := decide_eq_true c21; have c21b1w : decide ((IntKind.i64.wrap (9 + t135)) ≤ (l0.length : Int)) = true := by simp only [i64_w]; exact c21b1
               replace H := Option.bind_eq_some_iff.mp H; obtain ⟨t137, A220, H⟩ := H; replace H : ((spec_l11Wide.f k t137 4).bind fun t138 => (spec_DecodeFrame.l0 k l0 (wrap64 (9 + t135)) t138 0 0 0)) = some (r1, r2, r3, r4, r5) := H
               have A22 := Aside0.mk A220; clear A220; replace H := Option.bind_eq_some_iff.mp H; obtain ⟨t138, A230, H⟩ := H; replace H : (spec_DecodeFrame.l0 k l0 (wrap64 (9 + t135)) t138 0 0 0) = some (r1, r2, r3, r4, r5) := H
               have A23 := Aside0.mk A230; clear A230; have H' := Aside0.mk H; clear H; go_enter Try.func107, Try.ntmps107
               go_wp2_with (first | ((with_reducible refine gate_dst (N := 2) rfl ?_); refine boxA 2 #[.int .i64 0, .int .i64 0, .slice none 0 0] 109 ?_; intro gb131 hg w24 hbox hb; have BK131 := Aside0.mk hbox; have GW131 := leA (w := w) hg; have GE131 := leA (w := w) hg; replace HB := bS hb; clear hb hbox hg) | ((with_reducible refine gate_dst (N := 5) rfl ?_); refine boxA 5 #[.int .i64 0, .int .i64 0, .slice none 0 0] 109 ?_; intro gb132 hg w25 hbox hb; have BK132 := Aside0.mk hbox; have GW132 := leA (w := w) hg; have GE132 := leA (w := w) hg; have NB131_132 := neL hg BK131; have NB132_131 := neG hg BK131; replace BK131 := bB BK131 hb; replace HB := bS hb; clear hb hbox hg; have hnb26 := NB132_131.out; have hnc26 := NB131_132.out; obtain ⟨hcz27_0, hcz27_1, hcz27_2, hfz27_0, hfz27_1, hfz27_2⟩ := cel3 BK132) | ((with_reducible refine gate_callee (f := 149) rfl ?_); refine goesL_ (some 11) rfl rfl Try.func149 (by kernel_rfl) rfl #[.slice A0 l0.length c0] rfl (by (try simp only [List.map_toArray, List.map_cons, List.map_nil]); first | done | rfl | (simp only [List.length_drop, List.length_take]; rfl) | (simp only [Int.tmod_eq_emod_of_nonneg (Int.natCast_nonneg _)]; done) | (simp only [Int.tmod_eq_emod_of_nonneg (Int.natCast_nonneg _)]; rfl)) ?_; (with_reducible refine (spec_l11Head.calls k _ _ l0 true _ ?side1 ?side2 A2.out).mono ?_); (case side1 => exact Kd.C_below HR0.out belA); (case side2 => exact HC0.out); rintro e w' ⟨rfl, ⟨nd, rfl⟩⟩; refine ⟨_, rfl, ?_⟩; obtain ⟨i028, hi028, _, hsz28, _⟩ := info_parts info5; obtain ⟨A28, hcut28, hA28, hC28⟩ := print_mid_of (P := Try.prog) (Value.int .u8) 0 22 5 .i64 .i64 Try.underlying22 hi028 hsz28 A0 c0 l0 7 9 (by omega) (by first | omega | exact odA) (odA) HC0.out; have HR134 := Aside0.mk (Kd.C_of_reads (h1 := fun _ => rfl) (hA28 _ (Kd.reads_of_C HR0.out))); have HC134 := Aside0.mk hC28; clear hA28 hC28 hi028 hsz28) | ((with_reducible refine gate_callee (f := 150) rfl ?_); refine goesL_ (some 20) rfl rfl Try.func150 (by kernel_rfl) rfl #[.slice A28 ((l0.take 9).drop 7).length (c0 - 7)] rfl (by (try simp only [List.map_toArray, List.map_cons, List.map_nil]); first | done | ((try simp only [hji36]); rfl) | (simp only [List.length_drop, List.length_take]; (try simp only [hji36]); rfl) | (rw [show ((l0.take 9).drop 7).length = (9 - 7) from (by rw [List.length_drop, List.length_take]; have h_ : (9 : Int) ≤ (l0.length : Int) := odA; omega)] <;> rfl) | rfl | (simp only [List.length_drop, List.length_take]; rfl)) ?_; (with_reducible refine (spec_l11Read.calls k _ _ ((l0.take 9).drop 7) t135 _ ?side1 ?side2 A12.out).mono ?_); (case side1 => exact Kd.C_below HR134.out belA); (case side2 => exact HC134.out); rintro e w' ⟨rfl, ⟨nd, rfl⟩⟩; refine ⟨_, rfl, ?_⟩; obtain ⟨i029, hi029, _, hsz29, _⟩ := info_parts info5; obtain ⟨A29, hcut29, hA29, hC29⟩ := print_mid_of (P := Try.prog) (Value.int .u8) 0 22 5 .i64 .i64 Try.underlying22 hi029 hsz29 A0 c0 l0 2 (wrap64 (9 + t135)) (by omega) (by first | omega | exact odA) (odA) HC0.out; have HR136 := Aside0.mk (Kd.C_of_reads (h1 := fun _ => rfl) (hA29 _ (Kd.reads_of_C HR0.out))); have HC136 := Aside0.mk hC29; clear hA29 hC29 hi029 hsz29) | ((with_reducible refine gate_callee (f := 132) rfl ?_); refine goesL_ (some 30) rfl rfl Try.func132 (by kernel_rfl) rfl #[.slice A29 ((l0.take ((wrap64 (9 + t135)) : Int).toNat).drop 2).length (c0 - 2)] rfl (by (try simp only [List.map_toArray, List.map_cons, List.map_nil]); first | done | ((try simp only [hji36]); rfl) | (simp only [List.length_drop, List.length_take]; (try simp only [hji36]); rfl) | (rw [show ((l0.take ((wrap64 (9 + t135)) : Int).toNat).drop 2).length = ((wrap64 (9 + t135)).toNat - 2) from (by rw [List.length_drop, List.length_take]; have h_ : ((wrap64 (9 + t135)) : Int) ≤ (l0.length : Int) := odA; omega)] <;> rfl) | rfl | (simp only [List.length_drop, List.length_take]; rfl)) ?_; (with_reducible refine (spec_CheckSum.calls k _ _ ((l0.take ((wrap64 (9 + t135)) : Int).toNat).drop 2) t137 _ ?side1 ?side2 A22.out).mono ?_); (case side1 => exact Kd.C_below HR136.out belA); (case side2 => exact HC136.out); rintro e w' ⟨rfl, ⟨nd, rfl⟩⟩; refine ⟨_, rfl, ?_⟩) | ((with_reducible refine gate_callee (f := 131) rfl ?_); refine goesL_ (some 31) rfl rfl Try.func131 (by kernel_rfl) rfl #[.int .i64 t137, .int .i64 4] rfl (by (try simp only [List.map_toArray, List.map_cons, List.map_nil]); first | done | rfl | (simp only [List.length_drop, List.length_take]; rfl) | (simp only [Int.tmod_eq_emod_of_nonneg (Int.natCast_nonneg _)]; done) | (simp only [Int.tmod_eq_emod_of_nonneg (Int.natCast_nonneg _)]; rfl)) ?_; (with_reducible refine (spec_l11Wide.calls k t137 4 t138 _ A23.out).mono ?_); rintro e w30 ⟨v139, rfl, ho0, hb⟩; refine ⟨_, rfl, ?_⟩; have HO140 := rL ho0; replace BK131 := Aside0.mk (blk_below (g := gb131) (o := .cells #[.int .i64 0, .int .i64 0, .slice none 0 0] 109 (0, 0)) (by (with_reducible repeat (first | refine blk_drewN ?_ _ | refine blk_drew ?_ | refine blk_alloc ?_ _)); refine blk_far ?_ NB131_132.out _; (with_reducible repeat (first | refine blk_drewN ?_ _ | refine blk_drew ?_ | refine blk_alloc ?_ _)); refine blk_far ?_ NB131_132.out _; (with_reducible repeat (first | refine blk_drewN ?_ _ | refine blk_drew ?_ | refine blk_alloc ?_ _)); refine blk_far ?_ NB131_132.out _; (with_reducible repeat (first | refine blk_drewN ?_ _ | refine blk_drew ?_ | refine blk_alloc ?_ _)); exact BK131.out) hb); replace BK132 := Aside0.mk (blk_below (g := gb132) (o := .cells #[.int .i64 0, .int .i64 0, .slice none 0 0] 109 (0, 0)) (by (with_reducible repeat (first | refine blk_drewN ?_ _ | refine blk_drew ?_ | refine blk_alloc ?_ _)); refine blk_put (cs := #[.int .i64 0, .int .i64 0, .slice none 0 0]) ?_ 2 _ rfl; (with_reducible repeat (first | refine blk_drewN ?_ _ | refine blk_drew ?_ | refine blk_alloc ?_ _)); refine blk_put (cs := #[.int .i64 0, .int .i64 0, .slice none 0 0]) ?_ 1 _ rfl; (with_reducible repeat (first | refine blk_drewN ?_ _ | refine blk_drew ?_ | refine blk_alloc ?_ _)); refine blk_put (cs := #[.int .i64 0, .int .i64 0, .slice none 0 0]) ?_ 0 _ rfl; (with_reducible repeat (first | refine blk_drewN ?_ _ | refine blk_drew ?_ | refine blk_alloc ?_ _)); exact BK132.out) hb); replace HB := bS hb; (try clear hb); (try clear hb2); (try clear hk); (try clear hi); (try clear ho0)))
               go_loopg [8] k (fun kq v8 w' => ∃ (x8_1 : Int) (x132000_1 : Int) (x132001_1 : Int), v8 = .int .i64 x8_1 ∧ Aside0 (spec_DecodeFrame.l0 kq l0 (wrap64 (9 + t135)) t138 x8_1 0 0 = some (r1, r2, r3, r4, r5)) ∧ Aside0 (kq ≤ k) ∧ Aside0 (Kd.R (Kd.int .u8) 5 w' w.heap.size (fun _ => True) v139 t138) ∧ Aside0 (w'.heap[gb131]? = some (.cells #[.int .i64 x132000_1, .int .i64 x132001_1, (.slice none 0 0)] 109 (0, 0))) ∧ Aside0 (w'.heap[gb132]? = some (.cells #[.int .i64 0, .int .i64 0, (.slice none 0 0)] 109 (0, 0))) ∧ Aside0 (Below w.heap.size w w'))
               case atStart => exact ⟨(0), (0), (0), eqA, H', ⟨Nat.le_refl _⟩, ⟨rA HO140⟩, ⟨blkA⟩, ⟨blkA⟩, ⟨belA⟩⟩
               case round =>
                clear H'; obtain ⟨x8_1, x132000_1, x132001_1, rfl, HA, HK1, HO_7, BK131, BK132, HB⟩ := hrel
                cases gk with
                | zero => exact absurd HA.out (by simp [spec_DecodeFrame.l0])
                | succ k1 =>
                 have H := HA.out; clear HA; simp only [spec_DecodeFrame.l0] at H
                 by_cases c31 : x8_1 < 4
                 · rw [if_pos c31] at H; have c31b0 := decide_eq_true c31; clear c31
                   by_cases c32 : (wrap64 ((wrap64 (9 + t135)) + x8_1)) = (l0.length : Int)
                   · rw [if_pos c32] at H; have c32b0 : ((wrap64 ((wrap64 (9 + t135)) + x8_1)) == (l0.length : Int)) = true := beq_iff_eq.mpr c32; have c32b1 : ((wrap64 ((wrap64 (9 + t135)) + x8_1)) != (l0.length : Int)) = false := bne_eq_false_iff_eq.mpr c32; clear c32; simp only [Option.some.injEq, Prod.mk.injEq] at H; obtain ⟨rfl, rfl, rfl, rfl, rfl⟩ := H; have hnb33 := NB132_131.out; have hnc33 := NB131_132.out; obtain ⟨hcz34_0, hcz34_1, hcz34_2, hfz34_0, hfz34_1, hfz34_2⟩ := cel3 BK132; obtain ⟨hcz35_0, hcz35_1, hcz35_2, hfz35_0, hfz35_1, hfz35_2⟩ := cel3 BK131; go_wp2
                     refine bodyPost_ret (results_ctt rfl _ _ gb131 109 #[.int .i64 0, .int .i64 0, .slice none 0 0] (0, 0) _ rfl (by (with_reducible repeat (first | refine blk_drewN ?_ _ | refine blk_drew ?_ | refine blk_alloc ?_ _)); refine blk_put (cs := #[.int .i64 0, .int .i64 0, .slice none 0 0]) ?_ 2 _ rfl; (with_reducible repeat (first | refine blk_drewN ?_ _ | refine blk_drew ?_ | refine blk_alloc ?_ _)); refine blk_put (cs := #[.int .i64 0, .int .i64 x132001_1, .slice none 0 0]) ?_ 1 _ rfl; (with_reducible repeat (first | refine blk_drewN ?_ _ | refine blk_drew ?_ | refine blk_alloc ?_ _)); refine blk_put (cs := #[.int .i64 x132000_1, .int .i64 x132001_1, .slice none 0 0]) ?_ 0 _ rfl; (with_reducible repeat (first | refine blk_drewN ?_ _ | refine blk_drew ?_ | refine blk_alloc ?_ _)); exact BK131.out) Try.underlying109 rfl (by kernel_rfl)) rfl ?_
                     exact ⟨_, by first | rfl | (simp [errW_none, errW_some] <;> rfl) | (simp [*, errW_none, errW_some] <;> rfl) | (simp [wrap64]; done) | (simp [*, wrap64]; done), by first | exact Kd.R_nil _ _ _ _ _ | exact Kd.N_nil _ _ _ _ _ | exact Kd.V_nil _ _ _ _ _ | exact Kd.Q_nil _ _ _ _ _ | exact Kd.S_nil _ _ _ _ _, belA⟩
                   · rw [if_neg c32] at H; have c32b0 : ((wrap64 ((wrap64 (9 + t135)) + x8_1)) == (l0.length : Int)) = false := beq_eq_false_iff_ne.mpr c32; have c32b1 : ((wrap64 ((wrap64 (9 + t135)) + x8_1)) != (l0.length : Int)) = true := bne_iff_ne.mpr c32; obtain ⟨ji36, hji36⟩ : ∃ j_ : Int, (wrap64 ((wrap64 (9 + t135)) + x8_1)) = j_ := ⟨_, rfl⟩; replace H : (if 0 ≤ (ji36) then (if (ji36) < (l0.length : Int) then (if 0 ≤ x8_1 then (if x8_1 < (t138.length : Int) then (if (rd l0 (ji36)) = (rd t138 x8_1) then (spec_DecodeFrame.l0 k1 l0 (wrap64 (9 + t135)) t138 (wrap64 (x8_1 + 1)) 0 0) else (some (0, 0, ([] : List Int), 0, 2))) else (none)) else (none)) else (none)) else (none)) = some (r1, r2, r3, r4, r5) := by first | (rw [hji36] at H; exact H) | (simp only [hji36] at H ⊢; exact H)
                     (try rw [hji36] at c32b0)
                     (try rw [hji36] at c32b1)
                     have hji36w : (IntKind.i64.wrap ((wrap64 (9 + t135)) + x8_1)) = ji36 := (i64_w _).trans hji36
                     by_cases c37 : 0 ≤ (ji36)
                     · rw [if_pos c37] at H; have c37b0 := decide_eq_true c37; clear c37
                       by_cases c38 : (ji36) < (l0.length : Int)
                       · rw [if_pos c38] at H; have c38b0 := decide_eq_true c38; clear c38
                         by_cases c39 : 0 ≤ x8_1
                         · rw [if_pos c39] at H; have c39b0 := decide_eq_true c39; clear c39
                           by_cases c40 : x8_1 < (t138.length : Int)
                           · rw [if_pos c40] at H; have c40b0 := decide_eq_true c40; clear c40
                             by_cases c41 : (rd l0 (ji36)) = (rd t138 x8_1)
                             · rw [if_pos c41] at H; have c41b0 : ((rd l0 (ji36)) == (rd t138 x8_1)) = true := beq_iff_eq.mpr c41; have c41b1 : ((rd l0 (ji36)) != (rd t138 x8_1)) = false := bne_eq_false_iff_eq.mpr c41; clear c41; have H' := Aside0.mk H; clear H; try go_wp2
                               replace HO_7 := Aside0.mk (Kd.R_drew HO_7.out); replace BK131 := Aside0.mk (blk_drew BK131.out); replace BK132 := Aside0.mk (blk_drew BK132.out); replace HB := Aside0.mk (below_drew1 HB.out); have p148 : 0 ≤ ((ji36) : Int) := odA; have q148 : (ji36) < (l0.length : Int) := odA; obtain ⟨ad148, e148, hx148_0⟩ := Kd.at_int HR0.out (ji36) p148 q148; have hw148_0 := hx148_0
                               cases e148
                               try replace hx148_0 := cB HB hx148_0
                               replace p148 := eq_true p148; replace q148 := eq_true q148; obtain ⟨Ao43, co43, eo43⟩ := Kd.R_slice HO_7.out; (first | subst eo43 | (injection eo43 with f1_ f2_ f3_; have f4_ := f1_.symm; have f5_ := f3_.symm; clear f1_ f2_ f3_; subst f4_; subst f5_))
                               have p149 : 0 ≤ (x8_1 : Int) := odA; have q149 : x8_1 < (t138.length : Int) := odA; obtain ⟨ad149, e149, hx149_0⟩ := Kd.at_int (Kd.R_reads' HO_7.out).2.2 x8_1 p149 q149
                               cases e149
                               replace p149 := eq_true p149; replace q149 := eq_true q149; refine start_ (n := 11) (S := fun w' => w'.cell? (ad148.add ((ji36)).toNat) = some (.int .u8 (rd l0 (ji36))) ∧ w'.cell? (ad149.add (x8_1).toNat) = some (.int .u8 (rd t138 x8_1))) (ds := []) #[false, false, false, false, false, false, false, false, false, false, false] (by kernel_rfl) rfl rfl ⟨((HB.out.cell (World.block_lt_of_cell? w _ hw148_0)).trans hw148_0), hx149_0⟩ (fun hHeld => ?_); refine with_tabW spec_DecodeFrame.tab15 spec_DecodeFrame.bits15 (fun HT_ HW_ => ?_)
                               generalize wr.drew = w42 at HO_7 BK131 BK132 HB hx148_0 hx149_0 hHeld ⊢
                               refine pure_ (i := 0) (N := some 43) (v := ?_) (a' := ?_) #[true, false, false, false, false, false, false, false, false, false, false] rfl rfl (any_of HT_.out (by kernel_rfl)) (fun _ _ _ h => h) (Or.inl ⟨by rfl, ?_⟩) ?_ ?_
                               rotate_left
                               · intro w'; go_simp
                                 with_reducible rfl
                               rotate_left
                               · simp only [Act.put, sa, sb, sc, i64_w, i32_w]
                                 rfl
                               refine pure_ (i := 1) (N := some 44) (v := ?_) (a' := ?_) #[true, true, false, false, false, false, false, false, false, false, false] rfl rfl (any_of HT_.out (by kernel_rfl)) (fun _ _ _ h => h) (Or.inl ⟨by rfl, ?_⟩) ?_ ?_
                               rotate_left
                               · intro w'; go_simp
                                 with_reducible rfl
                               rotate_left
                               · simp only [Act.put, sa, sb, sc, i64_w, i32_w]
                                 rfl
                               refine pure_ (i := 2) (N := some 45) (v := ?_) (a' := ?_) #[true, true, true, false, false, false, false, false, false, false, false] rfl rfl (any_of HT_.out (by kernel_rfl)) (fun _ _ _ h => h) (Or.inl ⟨by rfl, ?_⟩) ?_ ?_
                               rotate_left
                               · intro w'; go_simp
                                 with_reducible rfl
                               rotate_left
                               · simp only [Act.put, sa, sb, sc, i64_w, i32_w]
                                 rfl
                               refine pure_ (i := 3) (N := some 46) (v := ?_) (a' := ?_) #[true, true, true, true, false, false, false, false, false, false, false] rfl rfl (any_of HT_.out (by kernel_rfl)) (fun _ _ _ h => h) (Or.inl ⟨by rfl, ?_⟩) ?_ ?_
                               rotate_left
                               · intro w'; go_simp
                                 with_reducible rfl
                               rotate_left
                               · simp only [Act.put, sa, sb, sc, i64_w, i32_w]
                                 rfl
                               refine pure_ (i := 4) (N := some 47) (v := ?_) (a' := ?_) #[true, true, true, true, true, false, false, false, false, false, false] rfl rfl (any_of HT_.out (by kernel_rfl)) (fun _ _ _ h => h) (Or.inl ⟨by rfl, ?_⟩) ?_ ?_
                               rotate_left
                               · intro w'; go_simp
                                 with_reducible rfl
                               rotate_left
                               · simp only [Act.put, sa, sb, sc, i64_w, i32_w]
                                 rfl
                               refine pure_ (i := 6) (N := some 49) (v := ?_) (a' := ?_) #[true, true, true, true, true, false, true, false, false, false, false] rfl rfl (any_of HT_.out (by kernel_rfl)) (fun _ _ _ h => h) (Or.inl ⟨by rfl, ?_⟩) ?_ ?_
                               rotate_left
                               · intro w'; go_simp
                                 with_reducible rfl
                               rotate_left
                               · simp only [Act.put, sa, sb, sc, i64_w, i32_w]
                                 rfl
                               refine pure_ (i := 7) (N := some 50) (v := ?_) (a' := ?_) #[true, true, true, true, true, false, true, true, false, false, false] rfl rfl (any_of HT_.out (by kernel_rfl)) (fun _ _ _ h => h) (Or.inl ⟨by rfl, ?_⟩) ?_ ?_
                               rotate_left
                               · intro w'; go_simp
                                 with_reducible rfl
                               rotate_left
                               · simp only [Act.put, sa, sb, sc, i64_w, i32_w]
                                 rfl
                               refine pure_ (i := 8) (N := some 51) (v := ?_) (a' := ?_) #[true, true, true, true, true, false, true, true, true, false, false] rfl rfl (any_of HT_.out (by kernel_rfl)) (fun _ _ _ h => h) (Or.inl ⟨by rfl, ?_⟩) ?_ ?_
                               rotate_left
                               · intro w'; go_simp
                                 with_reducible rfl
                               rotate_left
                               · simp only [Act.put, sa, sb, sc, i64_w, i32_w]
                                 rfl
                               refine take_ (i := 5) (N := some 48) (v := ?_) (a' := ?_) #[true, true, true, true, true, true, true, true, true, false, false] rfl rfl (take_ofW HT_.out HW_.out (by kernel_rfl)) (fun _ _ _ h => h) (Or.inl ⟨by rfl, ?_⟩) hHeld ?_ ?_
                               rotate_left
                               · rintro w' ⟨s0, s1⟩
                                 go_simp
                                 with_reducible rfl
                               rotate_left
                               · simp only [Act.put, sa, sb, sc, i64_w, i32_w]
                                 rfl
                               refine take_ (i := 9) (N := some 52) (v := ?_) (a' := ?_) #[true, true, true, true, true, true, true, true, true, true, false] rfl rfl (take_ofW HT_.out HW_.out (by kernel_rfl)) (fun _ _ _ h => h) (Or.inl ⟨by rfl, ?_⟩) hHeld ?_ ?_
                               rotate_left
                               · rintro w' ⟨s0, s1⟩
                                 go_simp
                                 with_reducible rfl
                               rotate_left
                               · simp only [Act.put, sa, sb, sc, i64_w, i32_w]
                                 rfl
                               refine pure_ (i := 10) (N := some 53) (v := ?_) (a' := ?_) #[true, true, true, true, true, true, true, true, true, true, true] rfl rfl (any_of HT_.out (by kernel_rfl)) (fun _ _ _ h => h) (Or.inl ⟨by rfl, ?_⟩) ?_ ?_
                               rotate_left
                               · intro w'; go_simp
                                 with_reducible rfl
                               rotate_left
                               · simp only [Act.put, sa, sb, sc, i64_w, i32_w]
                                 rfl
                               refine done_ (done_of HT_.out (by kernel_rfl)) ?_
                               try go_wp2
                               go_roundg k1
                               case measure => have := HK1.out; omega
                               case rel => exact ⟨(wrap64 (x8_1 + 1)), (x132000_1), (x132001_1), eqA, H', ⟨by have := HK1.out; omega⟩, ⟨rA HO_7⟩, ⟨blkA⟩, ⟨blkA⟩, ⟨belA⟩⟩
                             · rw [if_neg c41] at H; have c41b0 : ((rd l0 (ji36)) == (rd t138 x8_1)) = false := beq_eq_false_iff_ne.mpr c41; have c41b1 : ((rd l0 (ji36)) != (rd t138 x8_1)) = true := bne_iff_ne.mpr c41; simp only [Option.some.injEq, Prod.mk.injEq] at H; obtain ⟨rfl, rfl, rfl, rfl, rfl⟩ := H; try go_wp2
                               replace HO_7 := Aside0.mk (Kd.R_drew HO_7.out); replace BK131 := Aside0.mk (blk_drew BK131.out); replace BK132 := Aside0.mk (blk_drew BK132.out); replace HB := Aside0.mk (below_drew1 HB.out); have p148 : 0 ≤ ((ji36) : Int) := odA; have q148 : (ji36) < (l0.length : Int) := odA; obtain ⟨ad148, e148, hx148_0⟩ := Kd.at_int HR0.out (ji36) p148 q148; have hw148_0 := hx148_0
                               cases e148
                               try replace hx148_0 := cB HB hx148_0
                               replace p148 := eq_true p148; replace q148 := eq_true q148; obtain ⟨Ao45, co45, eo45⟩ := Kd.R_slice HO_7.out; (first | subst eo45 | (injection eo45 with f1_ f2_ f3_; have f4_ := f1_.symm; have f5_ := f3_.symm; clear f1_ f2_ f3_; subst f4_; subst f5_))
                               have p149 : 0 ≤ (x8_1 : Int) := odA; have q149 : x8_1 < (t138.length : Int) := odA; obtain ⟨ad149, e149, hx149_0⟩ := Kd.at_int (Kd.R_reads' HO_7.out).2.2 x8_1 p149 q149
                               cases e149
                               replace p149 := eq_true p149; replace q149 := eq_true q149; refine start_ (n := 11) (S := fun w' => w'.cell? (ad148.add ((ji36)).toNat) = some (.int .u8 (rd l0 (ji36))) ∧ w'.cell? (ad149.add (x8_1).toNat) = some (.int .u8 (rd t138 x8_1))) (ds := []) #[false, false, false, false, false, false, false, false, false, false, false] (by kernel_rfl) rfl rfl ⟨((HB.out.cell (World.block_lt_of_cell? w _ hw148_0)).trans hw148_0), hx149_0⟩ (fun hHeld => ?_); refine with_tabW spec_DecodeFrame.tab15 spec_DecodeFrame.bits15 (fun HT_ HW_ => ?_)
                               generalize wr.drew = w44 at HO_7 BK131 BK132 HB hx148_0 hx149_0 hHeld ⊢
                               refine pure_ (i := 0) (N := some 43) (v := ?_) (a' := ?_) #[true, false, false, false, false, false, false, false, false, false, false] rfl rfl (any_of HT_.out (by kernel_rfl)) (fun _ _ _ h => h) (Or.inl ⟨by rfl, ?_⟩) ?_ ?_
                               rotate_left
                               · intro w'; go_simp
                                 with_reducible rfl
                               rotate_left
                               · simp only [Act.put, sa, sb, sc, i64_w, i32_w]
                                 rfl
                               refine pure_ (i := 1) (N := some 44) (v := ?_) (a' := ?_) #[true, true, false, false, false, false, false, false, false, false, false] rfl rfl (any_of HT_.out (by kernel_rfl)) (fun _ _ _ h => h) (Or.inl ⟨by rfl, ?_⟩) ?_ ?_
                               rotate_left
                               · intro w'; go_simp
                                 with_reducible rfl
                               rotate_left
                               · simp only [Act.put, sa, sb, sc, i64_w, i32_w]
                                 rfl
                               refine pure_ (i := 2) (N := some 45) (v := ?_) (a' := ?_) #[true, true, true, false, false, false, false, false, false, false, false] rfl rfl (any_of HT_.out (by kernel_rfl)) (fun _ _ _ h => h) (Or.inl ⟨by rfl, ?_⟩) ?_ ?_
                               rotate_left
                               · intro w'; go_simp
                                 with_reducible rfl
                               rotate_left
                               · simp only [Act.put, sa, sb, sc, i64_w, i32_w]
                                 rfl
                               refine pure_ (i := 3) (N := some 46) (v := ?_) (a' := ?_) #[true, true, true, true, false, false, false, false, false, false, false] rfl rfl (any_of HT_.out (by kernel_rfl)) (fun _ _ _ h => h) (Or.inl ⟨by rfl, ?_⟩) ?_ ?_
                               rotate_left
                               · intro w'; go_simp
                                 with_reducible rfl
                               rotate_left
                               · simp only [Act.put, sa, sb, sc, i64_w, i32_w]
                                 rfl
                               refine pure_ (i := 4) (N := some 47) (v := ?_) (a' := ?_) #[true, true, true, true, true, false, false, false, false, false, false] rfl rfl (any_of HT_.out (by kernel_rfl)) (fun _ _ _ h => h) (Or.inl ⟨by rfl, ?_⟩) ?_ ?_
                               rotate_left
                               · intro w'; go_simp
                                 with_reducible rfl
                               rotate_left
                               · simp only [Act.put, sa, sb, sc, i64_w, i32_w]
                                 rfl
                               refine pure_ (i := 6) (N := some 49) (v := ?_) (a' := ?_) #[true, true, true, true, true, false, true, false, false, false, false] rfl rfl (any_of HT_.out (by kernel_rfl)) (fun _ _ _ h => h) (Or.inl ⟨by rfl, ?_⟩) ?_ ?_
                               rotate_left
                               · intro w'; go_simp
                                 with_reducible rfl
                               rotate_left
                               · simp only [Act.put, sa, sb, sc, i64_w, i32_w]
                                 rfl
                               refine pure_ (i := 7) (N := some 50) (v := ?_) (a' := ?_) #[true, true, true, true, true, false, true, true, false, false, false] rfl rfl (any_of HT_.out (by kernel_rfl)) (fun _ _ _ h => h) (Or.inl ⟨by rfl, ?_⟩) ?_ ?_
                               rotate_left
                               · intro w'; go_simp
                                 with_reducible rfl
                               rotate_left
                               · simp only [Act.put, sa, sb, sc, i64_w, i32_w]
                                 rfl
                               refine pure_ (i := 8) (N := some 51) (v := ?_) (a' := ?_) #[true, true, true, true, true, false, true, true, true, false, false] rfl rfl (any_of HT_.out (by kernel_rfl)) (fun _ _ _ h => h) (Or.inl ⟨by rfl, ?_⟩) ?_ ?_
                               rotate_left
                               · intro w'; go_simp
                                 with_reducible rfl
                               rotate_left
                               · simp only [Act.put, sa, sb, sc, i64_w, i32_w]
                                 rfl
                               refine take_ (i := 5) (N := some 48) (v := ?_) (a' := ?_) #[true, true, true, true, true, true, true, true, true, false, false] rfl rfl (take_ofW HT_.out HW_.out (by kernel_rfl)) (fun _ _ _ h => h) (Or.inl ⟨by rfl, ?_⟩) hHeld ?_ ?_
                               rotate_left
                               · rintro w' ⟨s0, s1⟩
                                 go_simp
                                 with_reducible rfl
                               rotate_left
                               · simp only [Act.put, sa, sb, sc, i64_w, i32_w]
                                 rfl
                               refine take_ (i := 9) (N := some 52) (v := ?_) (a' := ?_) #[true, true, true, true, true, true, true, true, true, true, false] rfl rfl (take_ofW HT_.out HW_.out (by kernel_rfl)) (fun _ _ _ h => h) (Or.inl ⟨by rfl, ?_⟩) hHeld ?_ ?_
                               rotate_left
                               · rintro w' ⟨s0, s1⟩
                                 go_simp
                                 with_reducible rfl
                               rotate_left
                               · simp only [Act.put, sa, sb, sc, i64_w, i32_w]
                                 rfl
                               refine pure_ (i := 10) (N := some 53) (v := ?_) (a' := ?_) #[true, true, true, true, true, true, true, true, true, true, true] rfl rfl (any_of HT_.out (by kernel_rfl)) (fun _ _ _ h => h) (Or.inl ⟨by rfl, ?_⟩) ?_ ?_
                               rotate_left
                               · intro w'; go_simp
                                 with_reducible rfl
                               rotate_left
                               · simp only [Act.put, sa, sb, sc, i64_w, i32_w]
                                 rfl
                               refine done_ (done_of HT_.out (by kernel_rfl)) ?_
                               have hnb46 := NB132_131.out; have hnc46 := NB131_132.out; obtain ⟨hcz47_0, hcz47_1, hcz47_2, hfz47_0, hfz47_1, hfz47_2⟩ := cel3 BK132; obtain ⟨hcz48_0, hcz48_1, hcz48_2, hfz48_0, hfz48_1, hfz48_2⟩ := cel3 BK131; try go_wp2
                               refine bodyPost_ret (results_ctt rfl _ _ gb131 109 #[.int .i64 0, .int .i64 0, .slice none 0 0] (0, 0) _ rfl (by (with_reducible repeat (first | refine blk_drewN ?_ _ | refine blk_drew ?_ | refine blk_alloc ?_ _)); refine blk_put (cs := #[.int .i64 0, .int .i64 0, .slice none 0 0]) ?_ 2 _ rfl; (with_reducible repeat (first | refine blk_drewN ?_ _ | refine blk_drew ?_ | refine blk_alloc ?_ _)); refine blk_put (cs := #[.int .i64 0, .int .i64 x132001_1, .slice none 0 0]) ?_ 1 _ rfl; (with_reducible repeat (first | refine blk_drewN ?_ _ | refine blk_drew ?_ | refine blk_alloc ?_ _)); refine blk_put (cs := #[.int .i64 x132000_1, .int .i64 x132001_1, .slice none 0 0]) ?_ 0 _ rfl; (with_reducible repeat (first | refine blk_drewN ?_ _ | refine blk_drew ?_ | refine blk_alloc ?_ _)); exact BK131.out) Try.underlying109 rfl (by kernel_rfl)) rfl ?_
                               exact ⟨_, by first | rfl | (simp [errW_none, errW_some] <;> rfl) | (simp only [← hji36]; first | rfl | (simp [errW_none, errW_some] <;> rfl)) | (simp [*, errW_none, errW_some] <;> rfl) | (simp [wrap64]; done) | (simp [*, wrap64]; done), by first | exact Kd.R_nil _ _ _ _ _ | exact Kd.N_nil _ _ _ _ _ | exact Kd.V_nil _ _ _ _ _ | exact Kd.Q_nil _ _ _ _ _ | exact Kd.S_nil _ _ _ _ _, belA⟩
                           · rw [if_neg c40] at H; exact absurd H (by simp)
                         · rw [if_neg c39] at H; exact absurd H (by simp)
                       · rw [if_neg c38] at H; exact absurd H (by simp)
                     · rw [if_neg c37] at H; exact absurd H (by simp)
                 · rw [if_neg c31] at H; have c31b0 := decide_eq_false c31; clear c31
                   by_cases c49 : 2 < (l0.length : Int)
                   · rw [if_pos c49] at H; have c49b0 := decide_eq_true c49; have c49b1 : decide (2 < l0.length) = true := decide_eq_true (by omega); clear c49
                     by_cases c50 : 3 ≤ 7
                     · rw [if_pos c50] at H; have c50b0 := eq_true c50; have c50b1 : decide (3 ≤ 7) = true := decide_eq_true c50; clear c50
                       by_cases c51 : 7 ≤ (l0.length : Int)
                       · rw [if_pos c51] at H; have c51b0 := eq_true c51; have c51b1 : decide (7 ≤ (l0.length : Int)) = true := decide_eq_true c51; clear c51; replace H := Option.bind_eq_some_iff.mp H; obtain ⟨t143, A520, H⟩ := H; replace H : (if 9 ≤ (wrap64 (9 + t135)) then (if (wrap64 (9 + t135)) ≤ (l0.length : Int) then ((spec_l01Bytes.f k1 ((l0.take ((wrap64 (9 + t135)) : Int).toNat).drop 9)).bind fun t145 => (some (wrap64 (rd l0 2), t143, t145, wrap64 ((wrap64 (9 + t135)) + 4), 0))) else (none)) else (none)) = some (r1, r2, r3, r4, r5) := H
                         have A52 := Aside0.mk A520; clear A520
                         by_cases c53 : 9 ≤ (wrap64 (9 + t135))
                         · rw [if_pos c53] at H; have c53b0 := eq_true c53; have c53b1 : decide (9 ≤ (wrap64 (9 + t135))) = true := decide_eq_true c53; have c53b1w : decide (9 ≤ (IntKind.i64.wrap (9 + t135))) = true := by simp only [i64_w]; exact c53b1
                           by_cases c54 : (wrap64 (9 + t135)) ≤ (l0.length : Int)
                           · rw [if_pos c54] at H; have c54b0 := eq_true c54; have c54b1 : decide ((wrap64 (9 + t135)) ≤ (l0.length : Int)) = true := decide_eq_true c54; have c54b1w : decide ((IntKind.i64.wrap (9 + t135)) ≤ (l0.length : Int)) = true := by simp only [i64_w]; exact c54b1
                             replace H := Option.bind_eq_some_iff.mp H; obtain ⟨t145, A550, H⟩ := H; replace H : (some (wrap64 (rd l0 2), t143, t145, wrap64 ((wrap64 (9 + t135)) + 4), 0)) = some (r1, r2, r3, r4, r5) := H
                             have A55 := Aside0.mk A550; clear A550; simp only [Option.some.injEq, Prod.mk.injEq] at H; obtain ⟨rfl, rfl, rfl, rfl, rfl⟩ := H; try go_wp2
                             replace HO_7 := Aside0.mk (Kd.R_drew HO_7.out); replace BK131 := Aside0.mk (blk_drew BK131.out); replace BK132 := Aside0.mk (blk_drew BK132.out); replace HB := Aside0.mk (below_drew1 HB.out); have p141 : 0 ≤ (2 : Int) := (by omega); have q141 : 2 < (l0.length : Int) := odA; obtain ⟨ad141, e141, hx141_0⟩ := Kd.at_int HR0.out 2 p141 q141; have hw141_0 := hx141_0; (try rw [show ((2 : Int)).toNat = 2 from rfl] at hw141_0)
                             (try rw [show 2 * 1 = 2 from rfl] at hw141_0)
                             (try simp only [Nat.reduceMul, Nat.reduceEqDiff, Go.Addr.add, ↓reduceIte] at hw141_0)
                             cases e141
                             (try simp only [show (2 : Int).toNat = 2 from rfl, Nat.reduceMul, Nat.reduceEqDiff, Go.Addr.add, ↓reduceIte] at hx141_0)
                             have qi141 : (2 < l0.length) = True := eq_true (by omega); (try rw [show ((2 : Int)).toNat = 2 from rfl] at hx141_0)
                             try replace hx141_0 := cB HB hx141_0
                             replace p141 := eq_true p141; replace q141 := eq_true q141; obtain ⟨i057, hi057, _, hsz57, _⟩ := info_parts info5; obtain ⟨A57, hcut57, hA57, hC57⟩ := print_mid_of (P := Try.prog) (Value.int .u8) 0 22 5 .i64 .i64 Try.underlying22 hi057 hsz57 (some ad141) c0 l0 3 7 (by omega) (by first | omega | exact odA) (odA) HC0.out; try simp only [hji36] at hcut57
                             have HR142 := Aside0.mk (Kd.C_of_reads (h1 := fun _ => rfl) (hA57 _ (Kd.reads_of_C HR0.out))); have HC142 := Aside0.mk hC57; clear hA57 hC57 hi057 hsz57; obtain ⟨i058, hi058, _, hsz58, _⟩ := info_parts info5; obtain ⟨A58, hcut58, hA58, hC58⟩ := print_mid_of (P := Try.prog) (Value.int .u8) 0 22 5 .i64 .i64 Try.underlying22 hi058 hsz58 (some ad141) c0 l0 9 (wrap64 (9 + t135)) (by omega) (by first | omega | exact odA) (odA) HC0.out; try simp only [hji36] at hcut58
                             have HR144 := Aside0.mk (Kd.C_of_reads (h1 := fun _ => rfl) (hA58 _ (Kd.reads_of_C HR0.out))); have HC144 := Aside0.mk hC58; clear hA58 hC58 hi058 hsz58; refine start_ (n := 17) (S := fun w' => w'.cell? ⟨ad141.block, ad141.off + 2, none⟩ = some (.int .u8 (rd l0 2))) (ds := []) #[false, false, false, false, false, false, false, false, false, false, false, false, false, false, false, false, false] (by kernel_rfl) rfl rfl (((HB.out.cell (World.block_lt_of_cell? w _ hw141_0)).trans hw141_0)) (fun hHeld => ?_); refine with_tabW spec_DecodeFrame.tab17 spec_DecodeFrame.bits17 (fun HT_ HW_ => ?_)
                             generalize wr.drew = w56 at HO_7 BK131 BK132 HB HR142 HR144 hx141_0 hHeld ⊢
                             refine pure_ (i := 0) (N := some 55) (v := ?_) (a' := ?_) #[true, false, false, false, false, false, false, false, false, false, false, false, false, false, false, false, false] rfl rfl (any_of HT_.out (by kernel_rfl)) (fun _ _ _ h => h) (Or.inl ⟨by rfl, ?_⟩) ?_ ?_
                             rotate_left
                             · intro w'; go_simp
                               with_reducible rfl
                             rotate_left
                             · simp only [Act.put, sa, sb, sc, i64_w, i32_w]
                               rfl
                             refine pure_ (i := 1) (N := some 56) (v := ?_) (a' := ?_) #[true, true, false, false, false, false, false, false, false, false, false, false, false, false, false, false, false] rfl rfl (any_of HT_.out (by kernel_rfl)) (fun _ _ _ h => h) (Or.inl ⟨by rfl, ?_⟩) ?_ ?_
                             rotate_left
                             · intro w'; go_simp
                               with_reducible rfl
                             rotate_left
                             · simp only [Act.put, sa, sb, sc, i64_w, i32_w]
                               rfl
                             refine pure_ (i := 4) (N := some 59) (v := ?_) (a' := ?_) #[true, true, false, false, true, false, false, false, false, false, false, false, false, false, false, false, false] rfl rfl (any_of HT_.out (by kernel_rfl)) (fun _ _ _ h => h) (Or.inl ⟨by rfl, ?_⟩) ?_ ?_
                             rotate_left
                             · intro w'; go_simp
                               with_reducible rfl
                             rotate_left
                             · simp only [Act.put, sa, sb, sc, i64_w, i32_w]
                               rfl
                             refine pure_ (i := 5) (N := some 60) (v := ?_) (a' := ?_) #[true, true, false, false, true, true, false, false, false, false, false, false, false, false, false, false, false] rfl rfl (any_of HT_.out (by kernel_rfl)) (fun _ _ _ h => h) (Or.inl ⟨by rfl, ?_⟩) ?_ ?_
                             rotate_left
                             · intro w'; go_simp
                               with_reducible rfl
                             rotate_left
                             · simp only [Act.put, sa, sb, sc, i64_w, i32_w]
                               rfl
                             refine pure_ (i := 7) (N := some 62) (v := ?_) (a' := ?_) #[true, true, false, false, true, true, false, true, false, false, false, false, false, false, false, false, false] rfl rfl (any_of HT_.out (by kernel_rfl)) (fun _ _ _ h => h) (Or.inl ⟨by rfl, ?_⟩) ?_ ?_
                             rotate_left
                             · intro w'; go_simp
                               with_reducible rfl
                             rotate_left
                             · simp only [Act.put, sa, sb, sc, i64_w, i32_w]
                               rfl
                             refine pure_ (i := 8) (N := some 63) (v := ?_) (a' := ?_) #[true, true, false, false, true, true, false, true, true, false, false, false, false, false, false, false, false] rfl rfl (any_of HT_.out (by kernel_rfl)) (fun _ _ _ h => h) (Or.inl ⟨by rfl, ?_⟩) ?_ ?_
                             rotate_left
                             · intro w'; go_simp
                               with_reducible rfl
                             rotate_left
                             · simp only [Act.put, sa, sb, sc, i64_w, i32_w]
                               rfl
                             refine pure_ (i := 9) (N := some 64) (v := ?_) (a' := ?_) #[true, true, false, false, true, true, false, true, true, true, false, false, false, false, false, false, false] rfl rfl (any_of HT_.out (by kernel_rfl)) (fun _ _ _ h => h) (Or.inl ⟨by rfl, ?_⟩) ?_ ?_
                             rotate_left
                             · intro w'; go_simp
                               with_reducible rfl
                             rotate_left
                             · simp only [Act.put, sa, sb, sc, i64_w, i32_w]
                               rfl
                             refine pure_ (i := 12) (N := some 67) (v := ?_) (a' := ?_) #[true, true, false, false, true, true, false, true, true, true, false, false, true, false, false, false, false] rfl rfl (any_of HT_.out (by kernel_rfl)) (fun _ _ _ h => h) (Or.inl ⟨by rfl, ?_⟩) ?_ ?_
                             rotate_left
                             · intro w'; go_simp
                               with_reducible rfl
                             rotate_left
                             · simp only [Act.put, sa, sb, sc, i64_w, i32_w]
                               rfl
                             refine pure_ (i := 13) (N := some 68) (v := ?_) (a' := ?_) #[true, true, false, false, true, true, false, true, true, true, false, false, true, true, false, false, false] rfl rfl (any_of HT_.out (by kernel_rfl)) (fun _ _ _ h => h) (Or.inl ⟨by rfl, ?_⟩) ?_ ?_
                             rotate_left
                             · intro w'; go_simp
                               with_reducible rfl
                             rotate_left
                             · simp only [Act.put, sa, sb, sc, i64_w, i32_w]
                               rfl
                             refine take_ (i := 2) (N := some 57) (v := ?_) (a' := ?_) #[true, true, true, false, true, true, false, true, true, true, false, false, true, true, false, false, false] rfl rfl (take_ofW HT_.out HW_.out (by kernel_rfl)) (fun _ _ _ h => h) (Or.inl ⟨by rfl, ?_⟩) hHeld ?_ ?_
                             rotate_left
                             · intro w' s0; go_simp
                               with_reducible rfl
                             rotate_left
                             · simp only [Act.put, sa, sb, sc, i64_w, i32_w]
                               rfl
                             refine pure_ (i := 3) (N := some 58) (v := ?_) (a' := ?_) #[true, true, true, true, true, true, false, true, true, true, false, false, true, true, false, false, false] rfl rfl (any_of HT_.out (by kernel_rfl)) (fun _ _ _ h => h) (Or.inl ⟨by rfl, ?_⟩) ?_ ?_
                             rotate_left
                             · intro w'; go_simp
                               with_reducible rfl
                             rotate_left
                             · simp only [Act.put, sa, sb, sc, i64_w, i32_w]
                               rfl
                             refine one_ (i := 6) (N := some 61) #[true, true, true, true, true, true, true, true, true, true, false, false, true, true, false, false, false] rfl rfl (one_of HT_.out (by kernel_rfl)) (by decide) (fun K hK => ?_)
                             refine goes_ Try.func150 (by kernel_rfl) rfl #[.slice A57 ((l0.take 7).drop 3).length (c0 - 3)] (by rfl) rfl rfl (by (try simp only [List.map_toArray, List.map_cons, List.map_nil]); first | done | ((try simp only [hji36]); rfl) | (simp only [List.length_drop, List.length_take]; (try simp only [hji36]); rfl) | (rw [show ((l0.take 7).drop 3).length = (7 - 3) from (by rw [List.length_drop, List.length_take]; have h_ : (7 : Int) ≤ (l0.length : Int) := odA; omega)] <;> rfl) | rfl | (simp only [List.length_drop, List.length_take]; rfl)) ?_
                             with_reducible refine (spec_l11Read.calls k1 _ _ ((l0.take 7).drop 3) t143 _ ?side1 ?side2 A52.out).mono ?_
                             (case side1 => exact cA (Kd.C_below HR142.out HB.out))
                             (case side2 => exact HC142.out)
                             rintro e w' ⟨rfl, ⟨nd, rfl⟩⟩
                             refine ⟨_, rfl, ?_⟩
                             refine hK.out _ _ (((HB.out.cell (World.block_lt_of_cell? w _ hw141_0)).trans hw141_0)) (fun hHeld => ?_)
                             clear hK K; refine norm_ (a' := ?_) ?_ ?_
                             rotate_left
                             · show Act.put _ (some 61) _ = _
                               simp only [Act.put, sa, sb, sc, i64_w, i32_w]
                               rfl
                             refine one_ (i := 10) (N := some 65) #[true, true, true, true, true, true, true, true, true, true, true, false, true, true, false, false, false] rfl rfl (one_of HT_.out (by kernel_rfl)) (by decide) (fun K hK => ?_)
                             refine goes_ Try.func106 (by kernel_rfl) rfl #[.slice A58 ((l0.take ((wrap64 (9 + t135)) : Int).toNat).drop 9).length (c0 - 9)] (by rfl) rfl rfl (by (try simp only [List.map_toArray, List.map_cons, List.map_nil]); first | done | ((try simp only [hji36]); rfl) | (simp only [List.length_drop, List.length_take]; (try simp only [hji36]); rfl) | (rw [show ((l0.take ((wrap64 (9 + t135)) : Int).toNat).drop 9).length = ((wrap64 (9 + t135)).toNat - 9) from (by rw [List.length_drop, List.length_take]; have h_ : ((wrap64 (9 + t135)) : Int) ≤ (l0.length : Int) := odA; omega)] <;> rfl) | rfl | (simp only [List.length_drop, List.length_take]; rfl)) ?_
                             with_reducible refine (spec_l01Bytes.calls k1 _ _ ((l0.take ((wrap64 (9 + t135)) : Int).toNat).drop 9) t145 _ ?side1 ?side2 A55.out).mono ?_
                             (case side1 => exact cA (Kd.C_below HR144.out belA))
                             (case side2 => exact HC144.out)
                             rintro e w59 ⟨v146, rfl, ho0, hb⟩
                             refine ⟨_, rfl, ?_⟩
                             have HO147 := rL (Kd.R_new' ho0 (rT HO_7)); replace HO_7 := rD HO_7 (Kd.R_base ho0) hb; replace BK131 := bB BK131 hb; replace BK132 := bB BK132 hb; replace HB := bS hb; (try clear hb); (try clear hb2); (try clear hk); (try clear hi); (try clear ho0); obtain ⟨Ao60, co60, eo60⟩ := Kd.R_slice HO147.out; (first | subst eo60 | (injection eo60 with f1_ f2_ f3_; have f4_ := f1_.symm; have f5_ := f3_.symm; clear f1_ f2_ f3_; subst f4_; subst f5_))
                             refine hK.out _ _ (((HB.out.cell (World.block_lt_of_cell? w _ hw141_0)).trans hw141_0)) (fun hHeld => ?_)
                             clear hK K; refine norm_ (a' := ?_) ?_ ?_
                             rotate_left
                             · show Act.put _ (some 65) _ = _
                               simp only [Act.put, sa, sb, sc, i64_w, i32_w]
                               rfl
                             refine pure_ (i := 11) (N := some 66) (v := ?_) (a' := ?_) #[true, true, true, true, true, true, true, true, true, true, true, true, true, true, false, false, false] rfl rfl (any_of HT_.out (by kernel_rfl)) (fun _ _ _ h => h) (Or.inl ⟨by rfl, ?_⟩) ?_ ?_
                             rotate_left
                             · intro w'; go_simp
                               with_reducible rfl
                             rotate_left
                             · simp only [Act.put, sa, sb, sc, i64_w, i32_w]
                               rfl
                             refine one_ (i := 14) (N := none) #[true, true, true, true, true, true, true, true, true, true, true, true, true, true, true, false, false] rfl rfl (one_of HT_.out (by kernel_rfl)) (by decide) (fun K hK => ?_)
                             have hs61 : w59.cell? ⟨gb131, 0, none⟩ = some (.int .i64 x132000_1) := (blk_cell BK131.out 0).trans rfl; have hfs61 := blk_frozen BK131.out 0; have hns61_1 := NB132_131.out; have hms61_1 := NB131_132.out; have hs62 : w59.cell? ⟨gb131, 1, none⟩ = some (.int .i64 x132001_1) := (blk_cell BK131.out 1).trans rfl; have hfs62 := blk_frozen BK131.out 1; have hns62_1 := NB132_131.out; have hms62_1 := NB131_132.out; have hs63 : w59.cell? ⟨gb131, 2, none⟩ = some (.slice none 0 0) := (blk_cell BK131.out 2).trans rfl; have hfs63 := blk_frozen BK131.out 2; have hns63_1 := NB132_131.out; have hms63_1 := NB131_132.out; refine skip_ (w1 := ?_) (by rfl) rfl ?_ ?_
                             rotate_left
                             · go_simp
                               rfl
                             refine hK.out _ _ (((cell_far (p := ⟨gb131, _, none⟩) (by first | exact Nat.ne_of_lt (Nat.lt_of_lt_of_le (by have := World.block_lt_of_cell? _ _ hw141_0; first | rwa [add_block] at this | exact this) GW131.out) | (rw [add_block]; exact Nat.ne_of_lt (Nat.lt_of_lt_of_le (by have := World.block_lt_of_cell? _ _ hw141_0; first | rwa [add_block] at this | exact this) GW131.out)) | (show (Addr.add _ _).block ≠ _; rw [add_block]; exact Nat.ne_of_lt (Nat.lt_of_lt_of_le (by have := World.block_lt_of_cell? _ _ hw141_0; first | rwa [add_block] at this | exact this) GW131.out)) | (dsimp only; exact Nat.ne_of_lt (Nat.lt_of_lt_of_le (by have := World.block_lt_of_cell? _ _ hw141_0; first | rwa [add_block] at this | exact this) GW131.out))) _).trans (((cell_far (p := ⟨gb131, _, none⟩) (by first | exact Nat.ne_of_lt (Nat.lt_of_lt_of_le (by have := World.block_lt_of_cell? _ _ hw141_0; first | rwa [add_block] at this | exact this) GW131.out) | (rw [add_block]; exact Nat.ne_of_lt (Nat.lt_of_lt_of_le (by have := World.block_lt_of_cell? _ _ hw141_0; first | rwa [add_block] at this | exact this) GW131.out)) | (show (Addr.add _ _).block ≠ _; rw [add_block]; exact Nat.ne_of_lt (Nat.lt_of_lt_of_le (by have := World.block_lt_of_cell? _ _ hw141_0; first | rwa [add_block] at this | exact this) GW131.out)) | (dsimp only; exact Nat.ne_of_lt (Nat.lt_of_lt_of_le (by have := World.block_lt_of_cell? _ _ hw141_0; first | rwa [add_block] at this | exact this) GW131.out))) _).trans (((cell_far (p := ⟨gb131, _, none⟩) (by first | exact Nat.ne_of_lt (Nat.lt_of_lt_of_le (by have := World.block_lt_of_cell? _ _ hw141_0; first | rwa [add_block] at this | exact this) GW131.out) | (rw [add_block]; exact Nat.ne_of_lt (Nat.lt_of_lt_of_le (by have := World.block_lt_of_cell? _ _ hw141_0; first | rwa [add_block] at this | exact this) GW131.out)) | (show (Addr.add _ _).block ≠ _; rw [add_block]; exact Nat.ne_of_lt (Nat.lt_of_lt_of_le (by have := World.block_lt_of_cell? _ _ hw141_0; first | rwa [add_block] at this | exact this) GW131.out)) | (dsimp only; exact Nat.ne_of_lt (Nat.lt_of_lt_of_le (by have := World.block_lt_of_cell? _ _ hw141_0; first | rwa [add_block] at this | exact this) GW131.out))) _).trans (hHeld))))))) (fun hHeld => ?_)
                             clear hK K; refine pure_ (i := 15) (N := some 3) (v := ?_) (a' := ?_) #[true, true, true, true, true, true, true, true, true, true, true, true, true, true, true, true, false] rfl rfl (any_of HT_.out (by kernel_rfl)) (fun _ _ _ h => h) (Or.inl ⟨by rfl, ?_⟩) ?_ ?_
                             rotate_left
                             · intro w'; go_simp
                               with_reducible rfl
                             rotate_left
                             · simp only [Act.put, sa, sb, sc, i64_w, i32_w]
                               rfl
                             refine pure_ (i := 16) (N := some 4) (v := ?_) (a' := ?_) #[true, true, true, true, true, true, true, true, true, true, true, true, true, true, true, true, true] rfl rfl (any_of HT_.out (by kernel_rfl)) (fun _ _ _ h => h) (Or.inl ⟨by rfl, ?_⟩) ?_ ?_
                             rotate_left
                             · intro w'; go_simp
                               with_reducible rfl
                             rotate_left
                             · simp only [Act.put, sa, sb, sc, i64_w, i32_w]
                               rfl
                             refine done_ (done_of HT_.out (by kernel_rfl)) ?_
                             try go_wp2
                             refine bodyPost_ret (results_ctt rfl _ _ gb131 109 #[.int .i64 (wrap64 (rd l0 2)), .int .i64 t143, .slice Ao60 t145.length co60] (0, 0) _ rfl (by (with_reducible repeat (first | refine blk_drewN ?_ _ | refine blk_drew ?_ | refine blk_alloc ?_ _)); refine blk_put (cs := #[.int .i64 (wrap64 (rd l0 2)), .int .i64 t143, .slice none 0 0]) ?_ 2 _ rfl; (with_reducible repeat (first | refine blk_drewN ?_ _ | refine blk_drew ?_ | refine blk_alloc ?_ _)); refine blk_put (cs := #[.int .i64 (wrap64 (rd l0 2)), .int .i64 x132001_1, .slice none 0 0]) ?_ 1 _ rfl; (with_reducible repeat (first | refine blk_drewN ?_ _ | refine blk_drew ?_ | refine blk_alloc ?_ _)); refine blk_put (cs := #[.int .i64 x132000_1, .int .i64 x132001_1, .slice none 0 0]) ?_ 0 _ rfl; (with_reducible repeat (first | refine blk_drewN ?_ _ | refine blk_drew ?_ | refine blk_alloc ?_ _)); exact BK131.out) Try.underlying109 rfl (by kernel_rfl)) rfl ?_
                             exact ⟨_, by first | rfl | (simp [errW_none, errW_some] <;> rfl) | (simp [*, errW_none, errW_some] <;> rfl) | (simp [wrap64]; done) | (simp [*, wrap64]; done), by (with_reducible repeat (first | apply Kd.R_alloc | apply Kd.R_drewN | apply Kd.R_drew)); exact Kd.R_mono (Kd.R_far (p := ⟨gb131, 2, none⟩) (Kd.R_far (p := ⟨gb131, 1, none⟩) (Kd.R_far (p := ⟨gb131, 0, none⟩) (Kd.R_types HO147.out BK131.out (by decide)) (fun _ hk => hk.2) (.int .i64 (wrap64 (rd l0 2)))) (fun _ hk => hk.2) (.int .i64 t143)) (fun _ hk => hk.2) (.slice Ao60 t145.length co60)) (fun _ hk => trivial), belA⟩
                           · rw [if_neg c54] at H; exact absurd H (by simp)
                         · rw [if_neg c53] at H; exact absurd H (by simp)
                       · rw [if_neg c51] at H; exact absurd H (by simp)
                     · rw [if_neg c50] at H; exact absurd H (by simp)
                   · rw [if_neg c49] at H; exact absurd H (by simp)
             · rw [if_neg c21] at H; exact absurd H (by simp)
           · rw [if_neg c20] at H; exact absurd H (by simp)
       · rw [if_neg c11] at H; exact absurd H (by simp)
     · rw [if_neg c10] at H; exact absurd H (by simp)
 · replace c3 := Bool.eq_false_iff.mpr c3; subst c3; have H1 : (some (0, 0, ([] : List Int), 0, 2)) = some (r1, r2, r3, r4, r5) := by rw [if_neg (show ¬ (false = true) by decide)] at H; exact H
   clear H; have H := H1; clear H1; simp only [Option.some.injEq, Prod.mk.injEq] at H; obtain ⟨rfl, rfl, rfl, rfl, rfl⟩ := H; go_enter Try.func107, Try.ntmps107
   go_wp2_with (first | ((with_reducible refine gate_dst (N := 2) rfl ?_); refine boxA 2 #[.int .i64 0, .int .i64 0, .slice none 0 0] 109 ?_; intro gb131 hg w64 hbox hb; have BK131 := Aside0.mk hbox; have GW131 := leA (w := w) hg; have GE131 := leA (w := w) hg; replace HB := bS hb; clear hb hbox hg) | ((with_reducible refine gate_dst (N := 5) rfl ?_); refine boxA 5 #[.int .i64 0, .int .i64 0, .slice none 0 0] 109 ?_; intro gb132 hg w65 hbox hb; have BK132 := Aside0.mk hbox; have GW132 := leA (w := w) hg; have GE132 := leA (w := w) hg; have NB131_132 := neL hg BK131; have NB132_131 := neG hg BK131; replace BK131 := bB BK131 hb; replace HB := bS hb; clear hb hbox hg; have hnb66 := NB132_131.out; have hnc66 := NB131_132.out; obtain ⟨hcz67_0, hcz67_1, hcz67_2, hfz67_0, hfz67_1, hfz67_2⟩ := cel3 BK132) | ((with_reducible refine gate_callee (f := 149) rfl ?_); refine goesL_ (some 11) rfl rfl Try.func149 (by kernel_rfl) rfl #[.slice A0 l0.length c0] rfl (by (try simp only [List.map_toArray, List.map_cons, List.map_nil]); first | done | rfl | (simp only [List.length_drop, List.length_take]; rfl) | (simp only [Int.tmod_eq_emod_of_nonneg (Int.natCast_nonneg _)]; done) | (simp only [Int.tmod_eq_emod_of_nonneg (Int.natCast_nonneg _)]; rfl)) ?_; (with_reducible refine (spec_l11Head.calls k _ _ l0 false _ ?side1 ?side2 A2.out).mono ?_); (case side1 => exact Kd.C_below HR0.out belA); (case side2 => exact HC0.out); rintro e w' ⟨rfl, ⟨nd, rfl⟩⟩; refine ⟨_, rfl, ?_⟩; obtain ⟨hcz68_0, hcz68_1, hcz68_2, hfz68_0, hfz68_1, hfz68_2⟩ := cel3 BK131))
   refine bodyPost_ret (results_ctt rfl _ _ gb131 109 #[.int .i64 0, .int .i64 0, .slice none 0 0] (0, 0) _ rfl (by (with_reducible repeat (first | refine blk_drewN ?_ _ | refine blk_drew ?_ | refine blk_alloc ?_ _)); refine blk_put (cs := #[.int .i64 0, .int .i64 0, .slice none 0 0]) ?_ 2 _ rfl; (with_reducible repeat (first | refine blk_drewN ?_ _ | refine blk_drew ?_ | refine blk_alloc ?_ _)); refine blk_put (cs := #[.int .i64 0, .int .i64 0, .slice none 0 0]) ?_ 1 _ rfl; (with_reducible repeat (first | refine blk_drewN ?_ _ | refine blk_drew ?_ | refine blk_alloc ?_ _)); refine blk_put (cs := #[.int .i64 0, .int .i64 0, .slice none 0 0]) ?_ 0 _ rfl; (with_reducible repeat (first | refine blk_drewN ?_ _ | refine blk_drew ?_ | refine blk_alloc ?_ _)); refine blk_far ?_ NB131_132.out _; (with_reducible repeat (first | refine blk_drewN ?_ _ | refine blk_drew ?_ | refine blk_alloc ?_ _)); refine blk_far ?_ NB131_132.out _; (with_reducible repeat (first | refine blk_drewN ?_ _ | refine blk_drew ?_ | refine blk_alloc ?_ _)); refine blk_far ?_ NB131_132.out _; (with_reducible repeat (first | refine blk_drewN ?_ _ | refine blk_drew ?_ | refine blk_alloc ?_ _)); exact BK131.out) Try.underlying109 rfl (by kernel_rfl)) rfl ?_
   exact ⟨_, by first | rfl | (simp [errW_none, errW_some] <;> rfl) | (simp [*, errW_none, errW_some] <;> rfl) | (simp [wrap64]; done) | (simp [*, wrap64]; done), by first | exact Kd.R_nil _ _ _ _ _ | exact Kd.N_nil _ _ _ _ _ | exact Kd.V_nil _ _ _ _ _ | exact Kd.Q_nil _ _ _ _ _ | exact Kd.S_nil _ _ _ _ _, belA⟩

end Go.Proofs.Ytbojabmpcfclhaa.PFnExactFeed

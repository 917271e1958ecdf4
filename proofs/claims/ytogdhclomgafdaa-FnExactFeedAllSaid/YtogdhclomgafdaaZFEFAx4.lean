-- Written by a program of this session (the print of the kit with contracts of this session's own added)
import Derived.Test.YtogdhclomgafdaaZFEFAx3
namespace Go.Proofs.Ytogdhclomgafdaa.PFnExactFeedAll
open Go.RowKit Go.Proofs.YtogdhclomgafdaaW.PrintWords Go.Proofs.YtogdhclomgafdaaW.PrintLast Go.Proofs.YtogdhclomgafdaaW.PrintMore Go.Proofs.YtogdhclomgafdaaW.PrintPack
set_option linter.unusedVariables false
set_option linter.unusedSimpArgs false

def spec_DecodeFrame.l0 : Nat → List Int → Int → List Int → Int → Int → Int → Option (Int × Int × List Int × Int × Int)
 | 0, _, _, _, _, _, _ => none
 | k + 1, x0, x6, x7, x8, x130000, x130001 => if x8 < 4 then (if (wrap64 (x6 + x8)) = (x0.length : Int) then (some (x130000, x130001, ([] : List Int), 0, 1)) else (if 0 ≤ (wrap64 (x6 + x8)) then (if (wrap64 (x6 + x8)) < (x0.length : Int) then (if 0 ≤ x8 then (if x8 < (x7.length : Int) then (if (rd x0 (wrap64 (x6 + x8))) = (rd x7 x8) then (spec_DecodeFrame.l0 k x0 x6 x7 (wrap64 (x8 + 1)) x130000 x130001) else (some (x130000, x130001, ([] : List Int), 0, 2))) else (none)) else (none)) else (none)) else (none))) else (if 2 < (x0.length : Int) then (if 3 ≤ 7 then (if 7 ≤ (x0.length : Int) then ((spec_l11Read.f k ((x0.take 7).drop 3)).bind fun t140 => (if 9 ≤ x6 then (if x6 ≤ (x0.length : Int) then ((spec_l01Bytes.f k ((x0.take (x6 : Int).toNat).drop 9)).bind fun t142 => (some (wrap64 (rd x0 2), t140, t142, wrap64 (x6 + 4), 0))) else (none)) else (none))) else (none)) else (none)) else (none))
def spec_DecodeFrame.f (k : Nat) (l0 : List Int) : Option (Int × Int × List Int × Int × Int) := (spec_l11Head.f k l0).bind fun t130 => (if t130 = true then (if (l0.length : Int) < 9 then (some (0, 0, ([] : List Int), 0, 1)) else (if 7 ≤ 9 then (if 9 ≤ (l0.length : Int) then ((spec_l11Read.f k ((l0.take 9).drop 7)).bind fun t132 => (if (l0.length : Int) < (wrap64 (9 + t132)) then (some (0, 0, ([] : List Int), 0, 1)) else (if 2 ≤ (wrap64 (9 + t132)) then (if (wrap64 (9 + t132)) ≤ (l0.length : Int) then ((spec_CheckSum.f k ((l0.take ((wrap64 (9 + t132)) : Int).toNat).drop 2)).bind fun t134 => ((spec_l11Wide.f k t134 4).bind fun t135 => (spec_DecodeFrame.l0 k l0 (wrap64 (9 + t132)) t135 0 0 0))) else (none)) else (none)))) else (none)) else (none))) else (some (0, 0, ([] : List Int), 0, 2)))
theorem spec_DecodeFrame.mono_l : ∀ k, (∀ y0 y1 y2 y3 y4 y5, LeO (spec_DecodeFrame.l0 k y0 y1 y2 y3 y4 y5) (spec_DecodeFrame.l0 (k + 1) y0 y1 y2 y3 y4 y5))
 | 0 => fun _ _ _ _ _ _ r h => by simp [spec_DecodeFrame.l0] at h
 | k + 1 => by
  have ih0 := spec_DecodeFrame.mono_l k
  · intro y0 y1 y2 y3 y4 y5; unfold spec_DecodeFrame.l0; exact xq69
theorem spec_DecodeFrame.mono : ∀ a0 k, LeO (spec_DecodeFrame.f k a0) (spec_DecodeFrame.f (k + 1) a0) := by
 intro a0 k; have ih0 := spec_DecodeFrame.mono_l k
 unfold spec_DecodeFrame.f
 exact xq69
def spec_DecodeFrame.T15 : Bool × List (List Nat × List Nat) := (true, [([], []), ([], []), ([], []), ([1, 2], [1, 2]), ([0, 3], [0, 3]), ([4], [4]), ([], []), ([], []), ([6, 7], [6, 7]), ([8], [8]), ([5, 9], [5, 9])])
def spec_DecodeFrame.B15 : List Nat := [0, 0, 0, 6, 15, 31, 0, 0, 192, 448, 1023]
theorem spec_DecodeFrame.tab15 : rtab .any (opsOf Try.f109 15) = spec_DecodeFrame.T15 := by kernel_rfl
theorem spec_DecodeFrame.bits15 : waitsOk spec_DecodeFrame.T15.2 spec_DecodeFrame.B15 = true := by kernel_rfl
def spec_DecodeFrame.T17 : Bool × List (List Nat × List Nat) := (true, [([], []), ([0], [0]), ([1], [1]), ([2], [2]), ([], []), ([4], [4]), ([5], [5]), ([], []), ([], []), ([7, 8], [7, 8]), ([9, 6], [9]), ([3, 6, 10], [3, 6, 10]), ([], []), ([12], [12]), ([11, 10, 0, 1, 2, 3, 4, 5, 6, 7, 8, 9, 10, 11], [11]), ([13, 14, 0, 1, 2, 3, 4, 5, 6, 7, 8, 9, 10, 11, 12, 13, 14], [13]), ([15, 0, 1, 2, 3, 4, 5, 6, 7, 8, 9, 10, 11, 12, 13, 14, 15], [])])
def spec_DecodeFrame.B17 : List Nat := [0, 1, 3, 7, 0, 16, 48, 0, 0, 384, 1008, 2047, 0, 4096, 4095, 32767, 65535]
theorem spec_DecodeFrame.tab17 : rtab .any (opsOf Try.f109 17) = spec_DecodeFrame.T17 := by kernel_rfl
theorem spec_DecodeFrame.bits17 : waitsOk spec_DecodeFrame.T17.2 spec_DecodeFrame.B17 = true := by kernel_rfl
set_option maxHeartbeats 8000000 in
set_option maxRecDepth 100000 in
theorem spec_DecodeFrame.calls (k : Nat) (A0 : Option Addr) (c0 : Nat) (l0 : List Int) (r1 : Int) (r2 : Int) (r3 : List Int) (r4 : Int) (r5 : Int) (w : World) (hr0 : Kd.C (Kd.int .u8) w A0 l0.length l0) (hc0 : l0.length ≤ c0) (h : spec_DecodeFrame.f k l0 = some (r1, r2, r3, r4, r5)) :
 Calls Try.prog 109 #[.slice A0 l0.length c0] w fun e w' => ∃ v2_ : Value, e = .returned (.tuple #[.agg #[.int .i64 r1, .int .i64 r2, v2_], .int .i64 r4, .int .i64 r5]) ∧ Kd.R (Kd.int .u8) 5 w' w.heap.size (fun _ => True) v2_ r3 ∧ Below w.heap.size w w' := by
 have hu52 := Try.underlying52; have HR0 := ak hr0; have HC0 := ak hc0; clear hr0 hc0; have HB := ak (Below.refl w.heap.size w); have H : ((spec_l11Head.f k l0).bind fun t130 => (if t130 = true then (if (l0.length : Int) < 9 then (some (0, 0, ([] : List Int), 0, 1)) else (if 7 ≤ 9 then (if 9 ≤ (l0.length : Int) then ((spec_l11Read.f k ((l0.take 9).drop 7)).bind fun t132 => (if (l0.length : Int) < (wrap64 (9 + t132)) then (some (0, 0, ([] : List Int), 0, 1)) else (if 2 ≤ (wrap64 (9 + t132)) then (if (wrap64 (9 + t132)) ≤ (l0.length : Int) then ((spec_CheckSum.f k ((l0.take ((wrap64 (9 + t132)) : Int).toNat).drop 2)).bind fun t134 => ((spec_l11Wide.f k t134 4).bind fun t135 => (spec_DecodeFrame.l0 k l0 (wrap64 (9 + t132)) t135 0 0 0))) else (none)) else (none)))) else (none)) else (none))) else (some (0, 0, ([] : List Int), 0, 2)))) = some (r1, r2, r3, r4, r5) := h; clear h; replace H := Option.bind_eq_some_iff.mp H; obtain ⟨t130, A20, H⟩ := H; (try dsimp only at H); have A2 := ak A20; clear A20
 by_cases c3 : t130 = true; rotate_left
 · replace c3 := Bool.eq_false_iff.mpr c3; subst c3; have H1 : (some (0, 0, ([] : List Int), 0, 2)) = some (r1, r2, r3, r4, r5) := by rw [if_neg (show ¬ (false = true) by decide)] at H; exact H
   clear H; have H := H1; clear H1; simp only [Option.some.injEq, Prod.mk.injEq] at H; obtain ⟨rfl, rfl, rfl, rfl, rfl⟩ := H; go_enter Try.func109, Try.ntmps109
   go_wp2_with (first | ((with_reducible refine gate_dst (N := 2) rfl ?_); refine boxA 2 #[.int .i64 0, .int .i64 0, .slice none 0 0] 52 ?_; intro gb128 hg w64 hbox hb; have BK128 := ak hbox; have GW128 := leA (w := w) hg; have GE128 := leA (w := w) hg; replace HB := bS hb; clear hb hbox hg) | ((with_reducible refine gate_dst (N := 5) rfl ?_); refine boxA 5 #[.int .i64 0, .int .i64 0, .slice none 0 0] 52 ?_; intro gb129 hg w65 hbox hb; have BK129 := ak hbox; have GW129 := leA (w := w) hg; have GE129 := leA (w := w) hg; have NB128_129 := neL hg BK128; have NB129_128 := neG hg BK128; replace BK128 := bB BK128 hb; replace HB := bS hb; clear hb hbox hg; have hnb66 := NB129_128.out; have hnc66 := NB128_129.out; obtain ⟨_, _, _, _, _, _⟩ := cel3 BK129) | ((with_reducible refine gate_callee (f := 124) rfl ?_); refine goB 11 Try.func124 #[.slice A0 l0.length c0] rfl ?_; (with_reducible refine (spec_l11Head.calls k _ _ l0 false _ ?side1 ?side2 A2.out).mono ?_); (case side1 => exact Kd.C_below HR0.out belA); (case side2 => exact HC0.out); rintro e w' ⟨rfl, ⟨nd, rfl⟩⟩; refine ⟨_, rfl, ?_⟩; obtain ⟨_, _, _, _, _, _⟩ := cel3 BK128))
   refine bodyPost_ret (results_ctt rfl _ _ gb128 52 #[.int .i64 0, .int .i64 0, .slice none 0 0] (0, 0) _ rfl xq37 Try.underlying52 rfl (by kernel_rfl)) rfl ?_
   exact ⟨_, xq2, xq9, belA⟩
 subst c3; have H1 : (if (l0.length : Int) < 9 then (some (0, 0, ([] : List Int), 0, 1)) else (if 7 ≤ 9 then (if 9 ≤ (l0.length : Int) then ((spec_l11Read.f k ((l0.take 9).drop 7)).bind fun t132 => (if (l0.length : Int) < (wrap64 (9 + t132)) then (some (0, 0, ([] : List Int), 0, 1)) else (if 2 ≤ (wrap64 (9 + t132)) then (if (wrap64 (9 + t132)) ≤ (l0.length : Int) then ((spec_CheckSum.f k ((l0.take ((wrap64 (9 + t132)) : Int).toNat).drop 2)).bind fun t134 => ((spec_l11Wide.f k t134 4).bind fun t135 => (spec_DecodeFrame.l0 k l0 (wrap64 (9 + t132)) t135 0 0 0))) else (none)) else (none)))) else (none)) else (none))) = some (r1, r2, r3, r4, r5) := by rw [if_pos rfl] at H; exact H
 clear H; have H := H1; clear H1
 by_cases c4 : (l0.length : Int) < 9
 · rw [if_pos c4] at H; have c4b0 := decide_eq_true c4; have c4b1 : decide (l0.length < 9) = true := decide_eq_true (by omega); clear c4; simp only [Option.some.injEq, Prod.mk.injEq] at H; obtain ⟨rfl, rfl, rfl, rfl, rfl⟩ := H; go_enter Try.func109, Try.ntmps109
   go_wp2_with (first | ((with_reducible refine gate_dst (N := 2) rfl ?_); refine boxA 2 #[.int .i64 0, .int .i64 0, .slice none 0 0] 52 ?_; intro gb128 hg w5 hbox hb; have BK128 := ak hbox; have GW128 := leA (w := w) hg; have GE128 := leA (w := w) hg; replace HB := bS hb; clear hb hbox hg) | ((with_reducible refine gate_dst (N := 5) rfl ?_); refine boxA 5 #[.int .i64 0, .int .i64 0, .slice none 0 0] 52 ?_; intro gb129 hg w6 hbox hb; have BK129 := ak hbox; have GW129 := leA (w := w) hg; have GE129 := leA (w := w) hg; have NB128_129 := neL hg BK128; have NB129_128 := neG hg BK128; replace BK128 := bB BK128 hb; replace HB := bS hb; clear hb hbox hg; have hnb7 := NB129_128.out; have hnc7 := NB128_129.out; obtain ⟨_, _, _, _, _, _⟩ := cel3 BK129) | ((with_reducible refine gate_callee (f := 124) rfl ?_); refine goB 11 Try.func124 #[.slice A0 l0.length c0] rfl ?_; (with_reducible refine (spec_l11Head.calls k _ _ l0 true _ ?side1 ?side2 A2.out).mono ?_); (case side1 => exact Kd.C_below HR0.out belA); (case side2 => exact HC0.out); rintro e w' ⟨rfl, ⟨nd, rfl⟩⟩; refine ⟨_, rfl, ?_⟩; obtain ⟨_, _, _, _, _, _⟩ := cel3 BK128))
   refine bodyPost_ret (results_ctt rfl _ _ gb128 52 #[.int .i64 0, .int .i64 0, .slice none 0 0] (0, 0) _ rfl xq37 Try.underlying52 rfl (by kernel_rfl)) rfl ?_
   exact ⟨_, xq2, xq9, belA⟩
 rw [if_neg c4] at H; have c4b0 := decide_eq_false c4; have c4b1 : decide (l0.length < 9) = false := decide_eq_false (by omega); clear c4
 by_cases c10 : 7 ≤ 9; rotate_left
 · rw [if_neg c10] at H; exact absurd H (by simp)
 rw [if_pos c10] at H; have c10b0 := eq_true c10; have c10b1 : decide (7 ≤ 9) = true := decide_eq_true c10; clear c10
 by_cases c11 : 9 ≤ (l0.length : Int); rotate_left
 · rw [if_neg c11] at H; exact absurd H (by simp)
 rw [if_pos c11] at H; have c11b0 := eq_true c11; have c11b1 : decide (9 ≤ (l0.length : Int)) = true := decide_eq_true c11; clear c11; replace H := Option.bind_eq_some_iff.mp H; obtain ⟨t132, A120, H⟩ := H; (try dsimp only at H); have A12 := ak A120; clear A120
 by_cases c13 : (l0.length : Int) < (wrap64 (9 + t132))
 · rw [if_pos c13] at H; have c13b0 := decide_eq_true c13; have c13b0w : decide ((l0.length : Int) < (IntKind.i64.wrap (9 + t132))) = true := by simp only [i64_w]; exact c13b0
   clear c13; simp only [Option.some.injEq, Prod.mk.injEq] at H; obtain ⟨rfl, rfl, rfl, rfl, rfl⟩ := H; go_enter Try.func109, Try.ntmps109
   go_wp2_with (first | ((with_reducible refine gate_dst (N := 2) rfl ?_); refine boxA 2 #[.int .i64 0, .int .i64 0, .slice none 0 0] 52 ?_; intro gb128 hg w14 hbox hb; have BK128 := ak hbox; have GW128 := leA (w := w) hg; have GE128 := leA (w := w) hg; replace HB := bS hb; clear hb hbox hg) | ((with_reducible refine gate_dst (N := 5) rfl ?_); refine boxA 5 #[.int .i64 0, .int .i64 0, .slice none 0 0] 52 ?_; intro gb129 hg w15 hbox hb; have BK129 := ak hbox; have GW129 := leA (w := w) hg; have GE129 := leA (w := w) hg; have NB128_129 := neL hg BK128; have NB129_128 := neG hg BK128; replace BK128 := bB BK128 hb; replace HB := bS hb; clear hb hbox hg; have hnb16 := NB129_128.out; have hnc16 := NB128_129.out; obtain ⟨_, _, _, _, _, _⟩ := cel3 BK129) | ((with_reducible refine gate_callee (f := 124) rfl ?_); refine goB 11 Try.func124 #[.slice A0 l0.length c0] rfl ?_; (with_reducible refine (spec_l11Head.calls k _ _ l0 true _ ?side1 ?side2 A2.out).mono ?_); (case side1 => exact Kd.C_below HR0.out belA); (case side2 => exact HC0.out); rintro e w' ⟨rfl, ⟨nd, rfl⟩⟩; refine ⟨_, rfl, ?_⟩; obtain ⟨i018, hi018, _, hsz18, _⟩ := info_parts info5; obtain ⟨A18, hcut18, hA18, hC18⟩ := print_mid_of (P := Try.prog) (Value.int .u8) 0 22 5 .i64 .i64 Try.underlying22 hi018 hsz18 A0 c0 l0 7 9 (by omega) xq8 (odA) HC0.out; have HR131 := ak (Kd.C_of_reads (h1 := fun _ => rfl) (hA18 _ (Kd.reads_of_C HR0.out))); have HC131 := ak hC18; clear hA18 hC18 hi018 hsz18) | ((with_reducible refine gate_callee (f := 125) rfl ?_); refine goesL_ (some 20) rfl rfl Try.func125 (by kernel_rfl) rfl #[.slice A18 ((l0.take 9).drop 7).length (c0 - 7)] rfl xq70 ?_; (with_reducible refine (spec_l11Read.calls k _ _ ((l0.take 9).drop 7) t132 _ ?side1 ?side2 A12.out).mono ?_); (case side1 => exact Kd.C_below HR131.out belA); (case side2 => exact HC131.out); rintro e w' ⟨rfl, ⟨nd, rfl⟩⟩; refine ⟨_, rfl, ?_⟩; obtain ⟨_, _, _, _, _, _⟩ := cel3 BK128))
   refine bodyPost_ret (results_ctt rfl _ _ gb128 52 #[.int .i64 0, .int .i64 0, .slice none 0 0] (0, 0) _ rfl xq37 Try.underlying52 rfl (by kernel_rfl)) rfl ?_
   exact ⟨_, xq2, xq9, belA⟩
 rw [if_neg c13] at H; have c13b0 := decide_eq_false c13; have c13b0w : decide ((l0.length : Int) < (IntKind.i64.wrap (9 + t132))) = false := by simp only [i64_w]; exact c13b0
 clear c13
 by_cases c20 : 2 ≤ (wrap64 (9 + t132)); rotate_left
 · rw [if_neg c20] at H; exact absurd H (by simp)
 rw [if_pos c20] at H; have c20b0 := eq_true c20; have c20b1 : decide (2 ≤ (wrap64 (9 + t132))) = true := decide_eq_true c20; have c20b1w : decide (2 ≤ (IntKind.i64.wrap (9 + t132))) = true := by simp only [i64_w]; exact c20b1
 by_cases c21 : (wrap64 (9 + t132)) ≤ (l0.length : Int); rotate_left
 · rw [if_neg c21] at H; exact absurd H (by simp)
 rw [if_pos c21] at H; have c21b0 := eq_true c21; have c21b1 : decide ((wrap64 (9 + t132)) ≤ (l0.length : Int)) = true := decide_eq_true c21; have c21b1w : decide ((IntKind.i64.wrap (9 + t132)) ≤ (l0.length : Int)) = true := by simp only [i64_w]; exact c21b1
 replace H := Option.bind_eq_some_iff.mp H; obtain ⟨t134, A220, H⟩ := H; (try dsimp only at H); have A22 := ak A220; clear A220; replace H := Option.bind_eq_some_iff.mp H; obtain ⟨t135, A230, H⟩ := H; (try dsimp only at H); have A23 := ak A230; clear A230; have H' := ak H; clear H; go_enter Try.func109, Try.ntmps109
 go_wp2_with (first | ((with_reducible refine gate_dst (N := 2) rfl ?_); refine boxA 2 #[.int .i64 0, .int .i64 0, .slice none 0 0] 52 ?_; intro gb128 hg w24 hbox hb; have BK128 := ak hbox; have GW128 := leA (w := w) hg; have GE128 := leA (w := w) hg; replace HB := bS hb; clear hb hbox hg) | ((with_reducible refine gate_dst (N := 5) rfl ?_); refine boxA 5 #[.int .i64 0, .int .i64 0, .slice none 0 0] 52 ?_; intro gb129 hg w25 hbox hb; have BK129 := ak hbox; have GW129 := leA (w := w) hg; have GE129 := leA (w := w) hg; have NB128_129 := neL hg BK128; have NB129_128 := neG hg BK128; replace BK128 := bB BK128 hb; replace HB := bS hb; clear hb hbox hg; have hnb26 := NB129_128.out; have hnc26 := NB128_129.out; obtain ⟨_, _, _, _, _, _⟩ := cel3 BK129) | ((with_reducible refine gate_callee (f := 124) rfl ?_); refine goB 11 Try.func124 #[.slice A0 l0.length c0] rfl ?_; (with_reducible refine (spec_l11Head.calls k _ _ l0 true _ ?side1 ?side2 A2.out).mono ?_); (case side1 => exact Kd.C_below HR0.out belA); (case side2 => exact HC0.out); rintro e w' ⟨rfl, ⟨nd, rfl⟩⟩; refine ⟨_, rfl, ?_⟩; obtain ⟨i028, hi028, _, hsz28, _⟩ := info_parts info5; obtain ⟨A28, hcut28, hA28, hC28⟩ := print_mid_of (P := Try.prog) (Value.int .u8) 0 22 5 .i64 .i64 Try.underlying22 hi028 hsz28 A0 c0 l0 7 9 (by omega) xq8 (odA) HC0.out; have HR131 := ak (Kd.C_of_reads (h1 := fun _ => rfl) (hA28 _ (Kd.reads_of_C HR0.out))); have HC131 := ak hC28; clear hA28 hC28 hi028 hsz28) | ((with_reducible refine gate_callee (f := 125) rfl ?_); refine goesL_ (some 20) rfl rfl Try.func125 (by kernel_rfl) rfl #[.slice A28 ((l0.take 9).drop 7).length (c0 - 7)] rfl xq70 ?_; (with_reducible refine (spec_l11Read.calls k _ _ ((l0.take 9).drop 7) t132 _ ?side1 ?side2 A12.out).mono ?_); (case side1 => exact Kd.C_below HR131.out belA); (case side2 => exact HC131.out); rintro e w' ⟨rfl, ⟨nd, rfl⟩⟩; refine ⟨_, rfl, ?_⟩; obtain ⟨i029, hi029, _, hsz29, _⟩ := info_parts info5; obtain ⟨A29, hcut29, hA29, hC29⟩ := print_mid_of (P := Try.prog) (Value.int .u8) 0 22 5 .i64 .i64 Try.underlying22 hi029 hsz29 A0 c0 l0 2 (wrap64 (9 + t132)) (by omega) xq8 (odA) HC0.out; have HR133 := ak (Kd.C_of_reads (h1 := fun _ => rfl) (hA29 _ (Kd.reads_of_C HR0.out))); have HC133 := ak hC29; clear hA29 hC29 hi029 hsz29) | ((with_reducible refine gate_callee (f := 121) rfl ?_); refine goesL_ (some 30) rfl rfl Try.func121 (by kernel_rfl) rfl #[.slice A29 ((l0.take ((wrap64 (9 + t132)) : Int).toNat).drop 2).length (c0 - 2)] rfl (by (try simp only [List.map_toArray, List.map_cons, List.map_nil]); first | done | ((try simp only [hji36]); rfl) | (simp only [List.length_drop, List.length_take]; (try simp only [hji36]); rfl) | (rw [show ((l0.take ((wrap64 (9 + t132)) : Int).toNat).drop 2).length = ((wrap64 (9 + t132)).toNat - 2) from xq71] <;> rfl) | rfl | (simp only [List.length_drop, List.length_take]; rfl)) ?_; (with_reducible refine (spec_CheckSum.calls k _ _ ((l0.take ((wrap64 (9 + t132)) : Int).toNat).drop 2) t134 _ ?side1 ?side2 A22.out).mono ?_); (case side1 => exact Kd.C_below HR133.out belA); (case side2 => exact HC133.out); rintro e w' ⟨rfl, ⟨nd, rfl⟩⟩; refine ⟨_, rfl, ?_⟩) | ((with_reducible refine gate_callee (f := 120) rfl ?_); refine goB 31 Try.func120 #[.int .i64 t134, .int .i64 4] rfl ?_; (with_reducible refine (spec_l11Wide.calls k t134 4 t135 _ A23.out).mono ?_); rintro e w30 ⟨v136, rfl, ho0, hb⟩; refine ⟨_, rfl, ?_⟩; have HO137 := rL ho0; replace BK128 := ak (blk_below (g := gb128) (o := .cells #[.int .i64 0, .int .i64 0, .slice none 0 0] 52 (0, 0)) (by (with_reducible repeat (first | refine blk_drewN ?_ _ | refine blk_drew ?_ | refine blk_alloc ?_ _)); refine blk_far ?_ NB128_129.out _; (with_reducible repeat (first | refine blk_drewN ?_ _ | refine blk_drew ?_ | refine blk_alloc ?_ _)); refine blk_far ?_ NB128_129.out _; (with_reducible repeat (first | refine blk_drewN ?_ _ | refine blk_drew ?_ | refine blk_alloc ?_ _)); refine blk_far ?_ NB128_129.out _; (with_reducible repeat (first | refine blk_drewN ?_ _ | refine blk_drew ?_ | refine blk_alloc ?_ _)); exact BK128.out) hb); replace BK129 := ak (blk_below (g := gb129) (o := .cells #[.int .i64 0, .int .i64 0, .slice none 0 0] 52 (0, 0)) (by (with_reducible repeat (first | refine blk_drewN ?_ _ | refine blk_drew ?_ | refine blk_alloc ?_ _)); refine blk_put (cs := #[.int .i64 0, .int .i64 0, .slice none 0 0]) ?_ 2 _ rfl; (with_reducible repeat (first | refine blk_drewN ?_ _ | refine blk_drew ?_ | refine blk_alloc ?_ _)); refine blk_put (cs := #[.int .i64 0, .int .i64 0, .slice none 0 0]) ?_ 1 _ rfl; (with_reducible repeat (first | refine blk_drewN ?_ _ | refine blk_drew ?_ | refine blk_alloc ?_ _)); refine blk_put (cs := #[.int .i64 0, .int .i64 0, .slice none 0 0]) ?_ 0 _ rfl; (with_reducible repeat (first | refine blk_drewN ?_ _ | refine blk_drew ?_ | refine blk_alloc ?_ _)); exact BK129.out) hb); replace HB := bS hb; (try clear hb ho0)))
 go_loopg [8] k (fun kq v8 w' => ∃ (x8_1 : Int) (x129000_1 : Int) (x129001_1 : Int), v8 = .int .i64 x8_1 ∧ Aside0 (spec_DecodeFrame.l0 kq l0 (wrap64 (9 + t132)) t135 x8_1 0 0 = some (r1, r2, r3, r4, r5)) ∧ Aside0 (kq ≤ k) ∧ Aside0 (Kd.R (Kd.int .u8) 5 w' w.heap.size (fun _ => True) v136 t135) ∧ Aside0 (w'.heap[gb128]? = some (.cells #[.int .i64 x129000_1, .int .i64 x129001_1, (.slice none 0 0)] 52 (0, 0))) ∧ Aside0 (w'.heap[gb129]? = some (.cells #[.int .i64 0, .int .i64 0, (.slice none 0 0)] 52 (0, 0))) ∧ Aside0 (Below w.heap.size w w'))
 case atStart => exact ⟨(0), (0), (0), eqA, H', ⟨Nat.le_refl _⟩, ⟨rA HO137⟩, ⟨blkA⟩, ⟨blkA⟩, ⟨belA⟩⟩
 case round =>
  clear H'; obtain ⟨x8_1, x129000_1, x129001_1, rfl, HA, HK1, HO_7, BK128, BK129, HB⟩ := hrel
  cases gk with
  | zero => exact absurd HA.out (by simp [spec_DecodeFrame.l0])
  | succ k1 =>
   have H := HA.out; clear HA; simp only [spec_DecodeFrame.l0] at H
   by_cases c31 : x8_1 < 4
   · rw [if_pos c31] at H; have c31b0 := decide_eq_true c31; clear c31
     by_cases c32 : (wrap64 ((wrap64 (9 + t132)) + x8_1)) = (l0.length : Int)
     · rw [if_pos c32] at H; have c32b0 : ((wrap64 ((wrap64 (9 + t132)) + x8_1)) == (l0.length : Int)) = true := beq_iff_eq.mpr c32; have c32b1 : ((wrap64 ((wrap64 (9 + t132)) + x8_1)) != (l0.length : Int)) = false := bne_eq_false_iff_eq.mpr c32; clear c32; simp only [Option.some.injEq, Prod.mk.injEq] at H; obtain ⟨rfl, rfl, rfl, rfl, rfl⟩ := H; have hnb33 := NB129_128.out; have hnc33 := NB128_129.out; obtain ⟨_, _, _, _, _, _⟩ := cel3 BK129; obtain ⟨_, _, _, _, _, _⟩ := cel3 BK128; go_wp2
       refine bodyPost_ret (results_ctt rfl _ _ gb128 52 #[.int .i64 0, .int .i64 0, .slice none 0 0] (0, 0) _ rfl xq72 Try.underlying52 rfl (by kernel_rfl)) rfl ?_
       exact ⟨_, xq2, xq9, belA⟩
     rw [if_neg c32] at H; have c32b0 : ((wrap64 ((wrap64 (9 + t132)) + x8_1)) == (l0.length : Int)) = false := beq_eq_false_iff_ne.mpr c32; have c32b1 : ((wrap64 ((wrap64 (9 + t132)) + x8_1)) != (l0.length : Int)) = true := bne_iff_ne.mpr c32; obtain ⟨ji36, hji36⟩ : ∃ j_ : Int, (wrap64 ((wrap64 (9 + t132)) + x8_1)) = j_ := ⟨_, rfl⟩; replace H : (if 0 ≤ (ji36) then (if (ji36) < (l0.length : Int) then (if 0 ≤ x8_1 then (if x8_1 < (t135.length : Int) then (if (rd l0 (ji36)) = (rd t135 x8_1) then (spec_DecodeFrame.l0 k1 l0 (wrap64 (9 + t132)) t135 (wrap64 (x8_1 + 1)) 0 0) else (some (0, 0, ([] : List Int), 0, 2))) else (none)) else (none)) else (none)) else (none)) = some (r1, r2, r3, r4, r5) := by first | (rw [hji36] at H; exact H) | (simp only [hji36] at H ⊢; exact H)
     (try rw [hji36] at c32b0)
     (try rw [hji36] at c32b1)
     have hji36w : (IntKind.i64.wrap ((wrap64 (9 + t132)) + x8_1)) = ji36 := (i64_w _).trans hji36
     by_cases c37 : 0 ≤ (ji36); rotate_left
     · rw [if_neg c37] at H; exact absurd H (by simp)
     rw [if_pos c37] at H; have c37b0 := decide_eq_true c37; clear c37
     by_cases c38 : (ji36) < (l0.length : Int); rotate_left
     · rw [if_neg c38] at H; exact absurd H (by simp)
     rw [if_pos c38] at H; have c38b0 := decide_eq_true c38; clear c38
     by_cases c39 : 0 ≤ x8_1; rotate_left
     · rw [if_neg c39] at H; exact absurd H (by simp)
     rw [if_pos c39] at H; have c39b0 := decide_eq_true c39; clear c39
     by_cases c40 : x8_1 < (t135.length : Int); rotate_left
     · rw [if_neg c40] at H; exact absurd H (by simp)
     rw [if_pos c40] at H; have c40b0 := decide_eq_true c40; clear c40
     by_cases c41 : (rd l0 (ji36)) = (rd t135 x8_1)
     · rw [if_pos c41] at H; have c41b0 : ((rd l0 (ji36)) == (rd t135 x8_1)) = true := beq_iff_eq.mpr c41; have c41b1 : ((rd l0 (ji36)) != (rd t135 x8_1)) = false := bne_eq_false_iff_eq.mpr c41; clear c41; have H' := ak H; clear H; try go_wp2
       replace HO_7 := ak (Kd.R_drew HO_7.out); replace BK128 := ak (blk_drew BK128.out); replace BK129 := ak (blk_drew BK129.out); replace HB := ak (below_drew1 HB.out); have p145 : 0 ≤ ((ji36) : Int) := odA; have q145 : (ji36) < (l0.length : Int) := odA; obtain ⟨ad145, e145, hx145_0⟩ := Kd.at_int HR0.out (ji36) p145 q145; have hw145_0 := hx145_0
       cases e145
       try replace hx145_0 := cB HB hx145_0
       replace p145 := eq_true p145; replace q145 := eq_true q145; obtain ⟨Ao43, co43, eo43⟩ := Kd.R_slice HO_7.out; (first | subst eo43 | (injection eo43 with f1_ f2_ f3_; have f4_ := f1_.symm; have f5_ := f3_.symm; clear f1_ f2_ f3_; subst f4_; subst f5_))
       have p146 : 0 ≤ (x8_1 : Int) := odA; have q146 : x8_1 < (t135.length : Int) := odA; obtain ⟨ad146, e146, hx146_0⟩ := Kd.at_int (Kd.R_reads' HO_7.out).2.2 x8_1 p146 q146
       cases e146
       replace p146 := eq_true p146; replace q146 := eq_true q146; refine start_ (n := 11) (S := fun w' => w'.cell? (ad145.add ((ji36)).toNat) = some (.int .u8 (rd l0 (ji36))) ∧ w'.cell? (ad146.add (x8_1).toNat) = some (.int .u8 (rd t135 x8_1))) (ds := []) #[false, false, false, false, false, false, false, false, false, false, false] (by kernel_rfl) rfl rfl ⟨((HB.out.cell (World.block_lt_of_cell? w _ hw145_0)).trans hw145_0), hx146_0⟩ (fun hHeld => ?_); refine with_tabW spec_DecodeFrame.tab15 spec_DecodeFrame.bits15 (fun HT_ HW_ => ?_)
       generalize wr.drew = w42 at HO_7 BK128 BK129 HB hx145_0 hx146_0 hHeld ⊢
       refine pure_ (i := 0) (N := some 43) (v := ?_) (a' := ?_) #[true, false, false, false, false, false, false, false, false, false, false] rfl rfl (any_of HT_.out (by kernel_rfl)) (fun _ _ _ h => h) (Or.inl ⟨by rfl, ?_⟩) ?_ ?_
       rotate_left
       · intro w'; go_simp
         with_reducible rfl
       rotate_left
       · simp only [Act.put, sa, sb, sc, i64_w, i32_w]
         rfl
       refine pure_ (i := 1) (N := some 44) (v := ?_) (a' := ?_) #[true, true, false, false, false, false, false, false, false, false, false] rfl rfl (any_of HT_.out (by kernel_rfl)) (fun _ _ _ h => h) (Or.inl ⟨by rfl, ?_⟩) ?_ ?_
       rotate_left
       · intro w'; go_simp
         with_reducible rfl
       rotate_left
       · simp only [Act.put, sa, sb, sc, i64_w, i32_w]
         rfl
       refine pure_ (i := 2) (N := some 45) (v := ?_) (a' := ?_) #[true, true, true, false, false, false, false, false, false, false, false] rfl rfl (any_of HT_.out (by kernel_rfl)) (fun _ _ _ h => h) (Or.inl ⟨by rfl, ?_⟩) ?_ ?_
       rotate_left
       · intro w'; go_simp
         with_reducible rfl
       rotate_left
       · simp only [Act.put, sa, sb, sc, i64_w, i32_w]
         rfl
       refine pure_ (i := 3) (N := some 46) (v := ?_) (a' := ?_) #[true, true, true, true, false, false, false, false, false, false, false] rfl rfl (any_of HT_.out (by kernel_rfl)) (fun _ _ _ h => h) (Or.inl ⟨by rfl, ?_⟩) ?_ ?_
       rotate_left
       · intro w'; go_simp
         with_reducible rfl
       rotate_left
       · simp only [Act.put, sa, sb, sc, i64_w, i32_w]
         rfl
       refine pure_ (i := 4) (N := some 47) (v := ?_) (a' := ?_) #[true, true, true, true, true, false, false, false, false, false, false] rfl rfl (any_of HT_.out (by kernel_rfl)) (fun _ _ _ h => h) (Or.inl ⟨by rfl, ?_⟩) ?_ ?_
       rotate_left
       · intro w'; go_simp
         with_reducible rfl
       rotate_left
       · simp only [Act.put, sa, sb, sc, i64_w, i32_w]
         rfl
       refine pure_ (i := 6) (N := some 49) (v := ?_) (a' := ?_) #[true, true, true, true, true, false, true, false, false, false, false] rfl rfl (any_of HT_.out (by kernel_rfl)) (fun _ _ _ h => h) (Or.inl ⟨by rfl, ?_⟩) ?_ ?_
       rotate_left
       · intro w'; go_simp
         with_reducible rfl
       rotate_left
       · simp only [Act.put, sa, sb, sc, i64_w, i32_w]
         rfl
       refine pure_ (i := 7) (N := some 50) (v := ?_) (a' := ?_) #[true, true, true, true, true, false, true, true, false, false, false] rfl rfl (any_of HT_.out (by kernel_rfl)) (fun _ _ _ h => h) (Or.inl ⟨by rfl, ?_⟩) ?_ ?_
       rotate_left
       · intro w'; go_simp
         with_reducible rfl
       rotate_left
       · simp only [Act.put, sa, sb, sc, i64_w, i32_w]
         rfl
       refine pure_ (i := 8) (N := some 51) (v := ?_) (a' := ?_) #[true, true, true, true, true, false, true, true, true, false, false] rfl rfl (any_of HT_.out (by kernel_rfl)) (fun _ _ _ h => h) (Or.inl ⟨by rfl, ?_⟩) ?_ ?_
       rotate_left
       · intro w'; go_simp
         with_reducible rfl
       rotate_left
       · simp only [Act.put, sa, sb, sc, i64_w, i32_w]
         rfl
       refine take_ (i := 5) (N := some 48) (v := ?_) (a' := ?_) #[true, true, true, true, true, true, true, true, true, false, false] rfl rfl (take_ofW HT_.out HW_.out (by kernel_rfl)) (fun _ _ _ h => h) (Or.inl ⟨by rfl, ?_⟩) hHeld ?_ ?_
       rotate_left
       · rintro w' ⟨s0, s1⟩
         go_simp
         with_reducible rfl
       rotate_left
       · simp only [Act.put, sa, sb, sc, i64_w, i32_w]
         rfl
       refine take_ (i := 9) (N := some 52) (v := ?_) (a' := ?_) #[true, true, true, true, true, true, true, true, true, true, false] rfl rfl (take_ofW HT_.out HW_.out (by kernel_rfl)) (fun _ _ _ h => h) (Or.inl ⟨by rfl, ?_⟩) hHeld ?_ ?_
       rotate_left
       · rintro w' ⟨s0, s1⟩
         go_simp
         with_reducible rfl
       rotate_left
       · simp only [Act.put, sa, sb, sc, i64_w, i32_w]
         rfl
       refine pure_ (i := 10) (N := some 53) (v := ?_) (a' := ?_) #[true, true, true, true, true, true, true, true, true, true, true] rfl rfl (any_of HT_.out (by kernel_rfl)) (fun _ _ _ h => h) (Or.inl ⟨by rfl, ?_⟩) ?_ ?_
       rotate_left
       · intro w'; go_simp
         with_reducible rfl
       rotate_left
       · simp only [Act.put, sa, sb, sc, i64_w, i32_w]
         rfl
       refine done_ (done_of HT_.out (by kernel_rfl)) ?_
       try go_wp2
       go_roundg k1
       case measure => have := HK1.out; omega
       case rel => exact ⟨(wrap64 (x8_1 + 1)), (x129000_1), (x129001_1), eqA, H', ⟨xq5⟩, ⟨rA HO_7⟩, ⟨blkA⟩, ⟨blkA⟩, ⟨belA⟩⟩
     rw [if_neg c41] at H; have c41b0 : ((rd l0 (ji36)) == (rd t135 x8_1)) = false := beq_eq_false_iff_ne.mpr c41; have c41b1 : ((rd l0 (ji36)) != (rd t135 x8_1)) = true := bne_iff_ne.mpr c41; simp only [Option.some.injEq, Prod.mk.injEq] at H; obtain ⟨rfl, rfl, rfl, rfl, rfl⟩ := H; try go_wp2
     replace HO_7 := ak (Kd.R_drew HO_7.out); replace BK128 := ak (blk_drew BK128.out); replace BK129 := ak (blk_drew BK129.out); replace HB := ak (below_drew1 HB.out); have p145 : 0 ≤ ((ji36) : Int) := odA; have q145 : (ji36) < (l0.length : Int) := odA; obtain ⟨ad145, e145, hx145_0⟩ := Kd.at_int HR0.out (ji36) p145 q145; have hw145_0 := hx145_0
     cases e145
     try replace hx145_0 := cB HB hx145_0
     replace p145 := eq_true p145; replace q145 := eq_true q145; obtain ⟨Ao45, co45, eo45⟩ := Kd.R_slice HO_7.out; (first | subst eo45 | (injection eo45 with f1_ f2_ f3_; have f4_ := f1_.symm; have f5_ := f3_.symm; clear f1_ f2_ f3_; subst f4_; subst f5_))
     have p146 : 0 ≤ (x8_1 : Int) := odA; have q146 : x8_1 < (t135.length : Int) := odA; obtain ⟨ad146, e146, hx146_0⟩ := Kd.at_int (Kd.R_reads' HO_7.out).2.2 x8_1 p146 q146
     cases e146
     replace p146 := eq_true p146; replace q146 := eq_true q146; refine start_ (n := 11) (S := fun w' => w'.cell? (ad145.add ((ji36)).toNat) = some (.int .u8 (rd l0 (ji36))) ∧ w'.cell? (ad146.add (x8_1).toNat) = some (.int .u8 (rd t135 x8_1))) (ds := []) #[false, false, false, false, false, false, false, false, false, false, false] (by kernel_rfl) rfl rfl ⟨((HB.out.cell (World.block_lt_of_cell? w _ hw145_0)).trans hw145_0), hx146_0⟩ (fun hHeld => ?_); refine with_tabW spec_DecodeFrame.tab15 spec_DecodeFrame.bits15 (fun HT_ HW_ => ?_)
     generalize wr.drew = w44 at HO_7 BK128 BK129 HB hx145_0 hx146_0 hHeld ⊢
     refine pure_ (i := 0) (N := some 43) (v := ?_) (a' := ?_) #[true, false, false, false, false, false, false, false, false, false, false] rfl rfl (any_of HT_.out (by kernel_rfl)) (fun _ _ _ h => h) (Or.inl ⟨by rfl, ?_⟩) ?_ ?_
     rotate_left
     · intro w'; go_simp
       with_reducible rfl
     rotate_left
     · simp only [Act.put, sa, sb, sc, i64_w, i32_w]
       rfl
     refine pure_ (i := 1) (N := some 44) (v := ?_) (a' := ?_) #[true, true, false, false, false, false, false, false, false, false, false] rfl rfl (any_of HT_.out (by kernel_rfl)) (fun _ _ _ h => h) (Or.inl ⟨by rfl, ?_⟩) ?_ ?_
     rotate_left
     · intro w'; go_simp
       with_reducible rfl
     rotate_left
     · simp only [Act.put, sa, sb, sc, i64_w, i32_w]
       rfl
     refine pure_ (i := 2) (N := some 45) (v := ?_) (a' := ?_) #[true, true, true, false, false, false, false, false, false, false, false] rfl rfl (any_of HT_.out (by kernel_rfl)) (fun _ _ _ h => h) (Or.inl ⟨by rfl, ?_⟩) ?_ ?_
     rotate_left
     · intro w'; go_simp
       with_reducible rfl
     rotate_left
     · simp only [Act.put, sa, sb, sc, i64_w, i32_w]
       rfl
     refine pure_ (i := 3) (N := some 46) (v := ?_) (a' := ?_) #[true, true, true, true, false, false, false, false, false, false, false] rfl rfl (any_of HT_.out (by kernel_rfl)) (fun _ _ _ h => h) (Or.inl ⟨by rfl, ?_⟩) ?_ ?_
     rotate_left
     · intro w'; go_simp
       with_reducible rfl
     rotate_left
     · simp only [Act.put, sa, sb, sc, i64_w, i32_w]
       rfl
     refine pure_ (i := 4) (N := some 47) (v := ?_) (a' := ?_) #[true, true, true, true, true, false, false, false, false, false, false] rfl rfl (any_of HT_.out (by kernel_rfl)) (fun _ _ _ h => h) (Or.inl ⟨by rfl, ?_⟩) ?_ ?_
     rotate_left
     · intro w'; go_simp
       with_reducible rfl
     rotate_left
     · simp only [Act.put, sa, sb, sc, i64_w, i32_w]
       rfl
     refine pure_ (i := 6) (N := some 49) (v := ?_) (a' := ?_) #[true, true, true, true, true, false, true, false, false, false, false] rfl rfl (any_of HT_.out (by kernel_rfl)) (fun _ _ _ h => h) (Or.inl ⟨by rfl, ?_⟩) ?_ ?_
     rotate_left
     · intro w'; go_simp
       with_reducible rfl
     rotate_left
     · simp only [Act.put, sa, sb, sc, i64_w, i32_w]
       rfl
     refine pure_ (i := 7) (N := some 50) (v := ?_) (a' := ?_) #[true, true, true, true, true, false, true, true, false, false, false] rfl rfl (any_of HT_.out (by kernel_rfl)) (fun _ _ _ h => h) (Or.inl ⟨by rfl, ?_⟩) ?_ ?_
     rotate_left
     · intro w'; go_simp
       with_reducible rfl
     rotate_left
     · simp only [Act.put, sa, sb, sc, i64_w, i32_w]
       rfl
     refine pure_ (i := 8) (N := some 51) (v := ?_) (a' := ?_) #[true, true, true, true, true, false, true, true, true, false, false] rfl rfl (any_of HT_.out (by kernel_rfl)) (fun _ _ _ h => h) (Or.inl ⟨by rfl, ?_⟩) ?_ ?_
     rotate_left
     · intro w'; go_simp
       with_reducible rfl
     rotate_left
     · simp only [Act.put, sa, sb, sc, i64_w, i32_w]
       rfl
     refine take_ (i := 5) (N := some 48) (v := ?_) (a' := ?_) #[true, true, true, true, true, true, true, true, true, false, false] rfl rfl (take_ofW HT_.out HW_.out (by kernel_rfl)) (fun _ _ _ h => h) (Or.inl ⟨by rfl, ?_⟩) hHeld ?_ ?_
     rotate_left
     · rintro w' ⟨s0, s1⟩
       go_simp
       with_reducible rfl
     rotate_left
     · simp only [Act.put, sa, sb, sc, i64_w, i32_w]
       rfl
     refine take_ (i := 9) (N := some 52) (v := ?_) (a' := ?_) #[true, true, true, true, true, true, true, true, true, true, false] rfl rfl (take_ofW HT_.out HW_.out (by kernel_rfl)) (fun _ _ _ h => h) (Or.inl ⟨by rfl, ?_⟩) hHeld ?_ ?_
     rotate_left
     · rintro w' ⟨s0, s1⟩
       go_simp
       with_reducible rfl
     rotate_left
     · simp only [Act.put, sa, sb, sc, i64_w, i32_w]
       rfl
     refine pure_ (i := 10) (N := some 53) (v := ?_) (a' := ?_) #[true, true, true, true, true, true, true, true, true, true, true] rfl rfl (any_of HT_.out (by kernel_rfl)) (fun _ _ _ h => h) (Or.inl ⟨by rfl, ?_⟩) ?_ ?_
     rotate_left
     · intro w'; go_simp
       with_reducible rfl
     rotate_left
     · simp only [Act.put, sa, sb, sc, i64_w, i32_w]
       rfl
     refine done_ (done_of HT_.out (by kernel_rfl)) ?_
     have hnb46 := NB129_128.out; have hnc46 := NB128_129.out; obtain ⟨_, _, _, _, _, _⟩ := cel3 BK129; obtain ⟨_, _, _, _, _, _⟩ := cel3 BK128; try go_wp2
     refine bodyPost_ret (results_ctt rfl _ _ gb128 52 #[.int .i64 0, .int .i64 0, .slice none 0 0] (0, 0) _ rfl xq72 Try.underlying52 rfl (by kernel_rfl)) rfl ?_
     exact ⟨_, by first | rfl | (simp [errW_none, errW_some] <;> rfl) | (simp only [← hji36]; first | rfl | (simp [errW_none, errW_some] <;> rfl)) | (simp [*, errW_none, errW_some] <;> rfl) | (simp [wrap64]; done) | (simp [*, wrap64]; done), xq9, belA⟩
   rw [if_neg c31] at H; have c31b0 := decide_eq_false c31; clear c31
   by_cases c49 : 2 < (l0.length : Int); rotate_left
   · rw [if_neg c49] at H; exact absurd H (by simp)
   rw [if_pos c49] at H; have c49b0 := decide_eq_true c49; have c49b1 : decide (2 < l0.length) = true := decide_eq_true (by omega); clear c49
   by_cases c50 : 3 ≤ 7; rotate_left
   · rw [if_neg c50] at H; exact absurd H (by simp)
   rw [if_pos c50] at H; have c50b0 := eq_true c50; have c50b1 : decide (3 ≤ 7) = true := decide_eq_true c50; clear c50
   by_cases c51 : 7 ≤ (l0.length : Int); rotate_left
   · rw [if_neg c51] at H; exact absurd H (by simp)
   rw [if_pos c51] at H; have c51b0 := eq_true c51; have c51b1 : decide (7 ≤ (l0.length : Int)) = true := decide_eq_true c51; clear c51; replace H := Option.bind_eq_some_iff.mp H; obtain ⟨t140, A520, H⟩ := H; (try dsimp only at H); have A52 := ak A520; clear A520
   by_cases c53 : 9 ≤ (wrap64 (9 + t132)); rotate_left
   · rw [if_neg c53] at H; exact absurd H (by simp)
   rw [if_pos c53] at H; have c53b0 := eq_true c53; have c53b1 : decide (9 ≤ (wrap64 (9 + t132))) = true := decide_eq_true c53; have c53b1w : decide (9 ≤ (IntKind.i64.wrap (9 + t132))) = true := by simp only [i64_w]; exact c53b1
   by_cases c54 : (wrap64 (9 + t132)) ≤ (l0.length : Int); rotate_left
   · rw [if_neg c54] at H; exact absurd H (by simp)
   rw [if_pos c54] at H; have c54b0 := eq_true c54; have c54b1 : decide ((wrap64 (9 + t132)) ≤ (l0.length : Int)) = true := decide_eq_true c54; have c54b1w : decide ((IntKind.i64.wrap (9 + t132)) ≤ (l0.length : Int)) = true := by simp only [i64_w]; exact c54b1
   replace H := Option.bind_eq_some_iff.mp H; obtain ⟨t142, A550, H⟩ := H; (try dsimp only at H); have A55 := ak A550; clear A550; simp only [Option.some.injEq, Prod.mk.injEq] at H; obtain ⟨rfl, rfl, rfl, rfl, rfl⟩ := H; try go_wp2
   replace HO_7 := ak (Kd.R_drew HO_7.out); replace BK128 := ak (blk_drew BK128.out); replace BK129 := ak (blk_drew BK129.out); replace HB := ak (below_drew1 HB.out); have p138 : 0 ≤ (2 : Int) := (by omega); have q138 : 2 < (l0.length : Int) := odA; obtain ⟨ad138, e138, hx138_0⟩ := Kd.at_int HR0.out 2 p138 q138; have hw138_0 := hx138_0; (try rw [show ((2 : Int)).toNat = 2 from rfl] at hw138_0)
   (try rw [show 2 * 1 = 2 from rfl] at hw138_0)
   (try simp only [Nat.reduceMul, Nat.reduceEqDiff, Go.Addr.add, ↓reduceIte] at hw138_0)
   cases e138
   (try simp only [show (2 : Int).toNat = 2 from rfl, Nat.reduceMul, Nat.reduceEqDiff, Go.Addr.add, ↓reduceIte] at hx138_0)
   have qi138 : (2 < l0.length) = True := eq_true (by omega); (try rw [show ((2 : Int)).toNat = 2 from rfl] at hx138_0)
   try replace hx138_0 := cB HB hx138_0
   replace p138 := eq_true p138; replace q138 := eq_true q138; obtain ⟨i057, hi057, _, hsz57, _⟩ := info_parts info5; obtain ⟨A57, hcut57, hA57, hC57⟩ := print_mid_of (P := Try.prog) (Value.int .u8) 0 22 5 .i64 .i64 Try.underlying22 hi057 hsz57 (some ad138) c0 l0 3 7 (by omega) xq8 (odA) HC0.out; try simp only [hji36] at hcut57
   have HR139 := ak (Kd.C_of_reads (h1 := fun _ => rfl) (hA57 _ (Kd.reads_of_C HR0.out))); have HC139 := ak hC57; clear hA57 hC57 hi057 hsz57; obtain ⟨i058, hi058, _, hsz58, _⟩ := info_parts info5; obtain ⟨A58, hcut58, hA58, hC58⟩ := print_mid_of (P := Try.prog) (Value.int .u8) 0 22 5 .i64 .i64 Try.underlying22 hi058 hsz58 (some ad138) c0 l0 9 (wrap64 (9 + t132)) (by omega) xq8 (odA) HC0.out; try simp only [hji36] at hcut58
   have HR141 := ak (Kd.C_of_reads (h1 := fun _ => rfl) (hA58 _ (Kd.reads_of_C HR0.out))); have HC141 := ak hC58; clear hA58 hC58 hi058 hsz58; refine start_ (n := 17) (S := fun w' => w'.cell? ⟨ad138.block, ad138.off + 2, none⟩ = some (.int .u8 (rd l0 2))) (ds := []) #[false, false, false, false, false, false, false, false, false, false, false, false, false, false, false, false, false] (by kernel_rfl) rfl rfl (((HB.out.cell (World.block_lt_of_cell? w _ hw138_0)).trans hw138_0)) (fun hHeld => ?_); refine with_tabW spec_DecodeFrame.tab17 spec_DecodeFrame.bits17 (fun HT_ HW_ => ?_)
   generalize wr.drew = w56 at HO_7 BK128 BK129 HB HR139 HR141 hx138_0 hHeld ⊢
   refine pure_ (i := 0) (N := some 55) (v := ?_) (a' := ?_) #[true, false, false, false, false, false, false, false, false, false, false, false, false, false, false, false, false] rfl rfl (any_of HT_.out (by kernel_rfl)) (fun _ _ _ h => h) (Or.inl ⟨by rfl, ?_⟩) ?_ ?_
   rotate_left
   · intro w'; go_simp
     with_reducible rfl
   rotate_left
   · simp only [Act.put, sa, sb, sc, i64_w, i32_w]
     rfl
   refine pure_ (i := 1) (N := some 56) (v := ?_) (a' := ?_) #[true, true, false, false, false, false, false, false, false, false, false, false, false, false, false, false, false] rfl rfl (any_of HT_.out (by kernel_rfl)) (fun _ _ _ h => h) (Or.inl ⟨by rfl, ?_⟩) ?_ ?_
   rotate_left
   · intro w'; go_simp
     with_reducible rfl
   rotate_left
   · simp only [Act.put, sa, sb, sc, i64_w, i32_w]
     rfl
   refine pure_ (i := 4) (N := some 59) (v := ?_) (a' := ?_) #[true, true, false, false, true, false, false, false, false, false, false, false, false, false, false, false, false] rfl rfl (any_of HT_.out (by kernel_rfl)) (fun _ _ _ h => h) (Or.inl ⟨by rfl, ?_⟩) ?_ ?_
   rotate_left
   · intro w'; go_simp
     with_reducible rfl
   rotate_left
   · simp only [Act.put, sa, sb, sc, i64_w, i32_w]
     rfl
   refine pure_ (i := 5) (N := some 60) (v := ?_) (a' := ?_) #[true, true, false, false, true, true, false, false, false, false, false, false, false, false, false, false, false] rfl rfl (any_of HT_.out (by kernel_rfl)) (fun _ _ _ h => h) (Or.inl ⟨by rfl, ?_⟩) ?_ ?_
   rotate_left
   · intro w'; go_simp
     with_reducible rfl
   rotate_left
   · simp only [Act.put, sa, sb, sc, i64_w, i32_w]
     rfl
   refine pure_ (i := 7) (N := some 62) (v := ?_) (a' := ?_) #[true, true, false, false, true, true, false, true, false, false, false, false, false, false, false, false, false] rfl rfl (any_of HT_.out (by kernel_rfl)) (fun _ _ _ h => h) (Or.inl ⟨by rfl, ?_⟩) ?_ ?_
   rotate_left
   · intro w'; go_simp
     with_reducible rfl
   rotate_left
   · simp only [Act.put, sa, sb, sc, i64_w, i32_w]
     rfl
   refine pure_ (i := 8) (N := some 63) (v := ?_) (a' := ?_) #[true, true, false, false, true, true, false, true, true, false, false, false, false, false, false, false, false] rfl rfl (any_of HT_.out (by kernel_rfl)) (fun _ _ _ h => h) (Or.inl ⟨by rfl, ?_⟩) ?_ ?_
   rotate_left
   · intro w'; go_simp
     with_reducible rfl
   rotate_left
   · simp only [Act.put, sa, sb, sc, i64_w, i32_w]
     rfl
   refine pure_ (i := 9) (N := some 64) (v := ?_) (a' := ?_) #[true, true, false, false, true, true, false, true, true, true, false, false, false, false, false, false, false] rfl rfl (any_of HT_.out (by kernel_rfl)) (fun _ _ _ h => h) (Or.inl ⟨by rfl, ?_⟩) ?_ ?_
   rotate_left
   · intro w'; go_simp
     with_reducible rfl
   rotate_left
   · simp only [Act.put, sa, sb, sc, i64_w, i32_w]
     rfl
   refine pure_ (i := 12) (N := some 67) (v := ?_) (a' := ?_) #[true, true, false, false, true, true, false, true, true, true, false, false, true, false, false, false, false] rfl rfl (any_of HT_.out (by kernel_rfl)) (fun _ _ _ h => h) (Or.inl ⟨by rfl, ?_⟩) ?_ ?_
   rotate_left
   · intro w'; go_simp
     with_reducible rfl
   rotate_left
   · simp only [Act.put, sa, sb, sc, i64_w, i32_w]
     rfl
   refine pure_ (i := 13) (N := some 68) (v := ?_) (a' := ?_) #[true, true, false, false, true, true, false, true, true, true, false, false, true, true, false, false, false] rfl rfl (any_of HT_.out (by kernel_rfl)) (fun _ _ _ h => h) (Or.inl ⟨by rfl, ?_⟩) ?_ ?_
   rotate_left
   · intro w'; go_simp
     with_reducible rfl
   rotate_left
   · simp only [Act.put, sa, sb, sc, i64_w, i32_w]
     rfl
   refine take_ (i := 2) (N := some 57) (v := ?_) (a' := ?_) #[true, true, true, false, true, true, false, true, true, true, false, false, true, true, false, false, false] rfl rfl (take_ofW HT_.out HW_.out (by kernel_rfl)) (fun _ _ _ h => h) (Or.inl ⟨by rfl, ?_⟩) hHeld ?_ ?_
   rotate_left
   · intro w' s0; go_simp
     with_reducible rfl
   rotate_left
   · simp only [Act.put, sa, sb, sc, i64_w, i32_w]
     rfl
   refine pure_ (i := 3) (N := some 58) (v := ?_) (a' := ?_) #[true, true, true, true, true, true, false, true, true, true, false, false, true, true, false, false, false] rfl rfl (any_of HT_.out (by kernel_rfl)) (fun _ _ _ h => h) (Or.inl ⟨by rfl, ?_⟩) ?_ ?_
   rotate_left
   · intro w'; go_simp
     with_reducible rfl
   rotate_left
   · simp only [Act.put, sa, sb, sc, i64_w, i32_w]
     rfl
   refine one_ (i := 6) (N := some 61) #[true, true, true, true, true, true, true, true, true, true, false, false, true, true, false, false, false] rfl rfl (one_of HT_.out (by kernel_rfl)) (by decide) (fun K hK => ?_)
   refine goes_ Try.func125 (by kernel_rfl) rfl #[.slice A57 ((l0.take 7).drop 3).length (c0 - 3)] (by rfl) rfl rfl (by (try simp only [List.map_toArray, List.map_cons, List.map_nil]); first | done | ((try simp only [hji36]); rfl) | (simp only [List.length_drop, List.length_take]; (try simp only [hji36]); rfl) | (rw [show ((l0.take 7).drop 3).length = (7 - 3) from xq21] <;> rfl) | rfl | (simp only [List.length_drop, List.length_take]; rfl)) ?_
   with_reducible refine (spec_l11Read.calls k1 _ _ ((l0.take 7).drop 3) t140 _ ?side1 ?side2 A52.out).mono ?_
   (case side1 => exact cA (Kd.C_below HR139.out HB.out))
   (case side2 => exact HC139.out)
   rintro e w' ⟨rfl, ⟨nd, rfl⟩⟩
   refine ⟨_, rfl, ?_⟩
   refine hK.out _ _ (((HB.out.cell (World.block_lt_of_cell? w _ hw138_0)).trans hw138_0)) (fun hHeld => ?_)
   clear hK K; refine norm_ (a' := ?_) ?_ ?_
   rotate_left
   · show Act.put _ (some 61) _ = _
     simp only [Act.put, sa, sb, sc, i64_w, i32_w]
     rfl
   refine one_ (i := 10) (N := some 65) #[true, true, true, true, true, true, true, true, true, true, true, false, true, true, false, false, false] rfl rfl (one_of HT_.out (by kernel_rfl)) (by decide) (fun K hK => ?_)
   refine goes_ Try.func108 (by kernel_rfl) rfl #[.slice A58 ((l0.take ((wrap64 (9 + t132)) : Int).toNat).drop 9).length (c0 - 9)] (by rfl) rfl rfl (by (try simp only [List.map_toArray, List.map_cons, List.map_nil]); first | done | ((try simp only [hji36]); rfl) | (simp only [List.length_drop, List.length_take]; (try simp only [hji36]); rfl) | (rw [show ((l0.take ((wrap64 (9 + t132)) : Int).toNat).drop 9).length = ((wrap64 (9 + t132)).toNat - 9) from xq71] <;> rfl) | rfl | (simp only [List.length_drop, List.length_take]; rfl)) ?_
   with_reducible refine (spec_l01Bytes.calls k1 _ _ ((l0.take ((wrap64 (9 + t132)) : Int).toNat).drop 9) t142 _ ?side1 ?side2 A55.out).mono ?_
   (case side1 => exact cA (Kd.C_below HR141.out belA))
   (case side2 => exact HC141.out)
   rintro e w59 ⟨v143, rfl, ho0, hb⟩
   refine ⟨_, rfl, ?_⟩
   have HO144 := rL (Kd.R_new' ho0 (Kd.R_lt (rF HO_7))); replace HO_7 := ak (Kd.R_elder' (rF HO_7) (Kd.R_base ho0) hb); replace BK128 := bB BK128 hb; replace BK129 := bB BK129 hb; replace HB := bS hb; (try clear hb ho0); obtain ⟨Ao60, co60, eo60⟩ := Kd.R_slice HO144.out; (first | subst eo60 | (injection eo60 with f1_ f2_ f3_; have f4_ := f1_.symm; have f5_ := f3_.symm; clear f1_ f2_ f3_; subst f4_; subst f5_))
   refine hK.out _ _ (((HB.out.cell (World.block_lt_of_cell? w _ hw138_0)).trans hw138_0)) (fun hHeld => ?_)
   clear hK K; refine norm_ (a' := ?_) ?_ ?_
   rotate_left
   · show Act.put _ (some 65) _ = _
     simp only [Act.put, sa, sb, sc, i64_w, i32_w]
     rfl
   refine pure_ (i := 11) (N := some 66) (v := ?_) (a' := ?_) #[true, true, true, true, true, true, true, true, true, true, true, true, true, true, false, false, false] rfl rfl (any_of HT_.out (by kernel_rfl)) (fun _ _ _ h => h) (Or.inl ⟨by rfl, ?_⟩) ?_ ?_
   rotate_left
   · intro w'; go_simp
     with_reducible rfl
   rotate_left
   · simp only [Act.put, sa, sb, sc, i64_w, i32_w]
     rfl
   refine one_ (i := 14) (N := none) #[true, true, true, true, true, true, true, true, true, true, true, true, true, true, true, false, false] rfl rfl (one_of HT_.out (by kernel_rfl)) (by decide) (fun K hK => ?_)
   have hs61 : w59.cell? ⟨gb128, 0, none⟩ = some (.int .i64 x129000_1) := (blk_cell BK128.out 0).trans rfl; have hfs61 := blk_frozen BK128.out 0; have hns61_1 := NB129_128.out; have hms61_1 := NB128_129.out; have hs62 : w59.cell? ⟨gb128, 1, none⟩ = some (.int .i64 x129001_1) := (blk_cell BK128.out 1).trans rfl; have hfs62 := blk_frozen BK128.out 1; have hns62_1 := NB129_128.out; have hms62_1 := NB128_129.out; have hs63 : w59.cell? ⟨gb128, 2, none⟩ = some (.slice none 0 0) := (blk_cell BK128.out 2).trans rfl; have hfs63 := blk_frozen BK128.out 2; have hns63_1 := NB129_128.out; have hms63_1 := NB128_129.out; refine skip_ (w1 := ?_) (by rfl) rfl ?_ ?_
   rotate_left
   · go_simp
     rfl
   refine hK.out _ _ (((cell_far (p := ⟨gb128, _, none⟩) xq38 _).trans (((cell_far (p := ⟨gb128, _, none⟩) xq38 _).trans (((cell_far (p := ⟨gb128, _, none⟩) xq38 _).trans (hHeld))))))) (fun hHeld => ?_)
   clear hK K; refine pure_ (i := 15) (N := some 3) (v := ?_) (a' := ?_) #[true, true, true, true, true, true, true, true, true, true, true, true, true, true, true, true, false] rfl rfl (any_of HT_.out (by kernel_rfl)) (fun _ _ _ h => h) (Or.inl ⟨by rfl, ?_⟩) ?_ ?_
   rotate_left
   · intro w'; go_simp
     with_reducible rfl
   rotate_left
   · simp only [Act.put, sa, sb, sc, i64_w, i32_w]
     rfl
   refine pure_ (i := 16) (N := some 4) (v := ?_) (a' := ?_) #[true, true, true, true, true, true, true, true, true, true, true, true, true, true, true, true, true] rfl rfl (any_of HT_.out (by kernel_rfl)) (fun _ _ _ h => h) (Or.inl ⟨by rfl, ?_⟩) ?_ ?_
   rotate_left
   · intro w'; go_simp
     with_reducible rfl
   rotate_left
   · simp only [Act.put, sa, sb, sc, i64_w, i32_w]
     rfl
   refine done_ (done_of HT_.out (by kernel_rfl)) ?_
   try go_wp2
   refine bodyPost_ret (results_ctt rfl _ _ gb128 52 #[.int .i64 (wrap64 (rd l0 2)), .int .i64 t140, .slice Ao60 t142.length co60] (0, 0) _ rfl (by (with_reducible repeat (first | refine blk_drewN ?_ _ | refine blk_drew ?_ | refine blk_alloc ?_ _)); refine blk_put (cs := #[.int .i64 (wrap64 (rd l0 2)), .int .i64 t140, .slice none 0 0]) ?_ 2 _ rfl; (with_reducible repeat (first | refine blk_drewN ?_ _ | refine blk_drew ?_ | refine blk_alloc ?_ _)); refine blk_put (cs := #[.int .i64 (wrap64 (rd l0 2)), .int .i64 x129001_1, .slice none 0 0]) ?_ 1 _ rfl; (with_reducible repeat (first | refine blk_drewN ?_ _ | refine blk_drew ?_ | refine blk_alloc ?_ _)); refine blk_put (cs := #[.int .i64 x129000_1, .int .i64 x129001_1, .slice none 0 0]) ?_ 0 _ rfl; (with_reducible repeat (first | refine blk_drewN ?_ _ | refine blk_drew ?_ | refine blk_alloc ?_ _)); exact BK128.out) Try.underlying52 rfl (by kernel_rfl)) rfl ?_
   exact ⟨_, xq2, by (with_reducible repeat (first | apply Kd.R_alloc | apply Kd.R_drewN | apply Kd.R_drew)); exact Kd.R_mono (Kd.R_far (p := ⟨gb128, 2, none⟩) (Kd.R_far (p := ⟨gb128, 1, none⟩) (Kd.R_far (p := ⟨gb128, 0, none⟩) (Kd.R_types HO144.out BK128.out (by decide)) (fun _ hk => hk.2) (.int .i64 (wrap64 (rd l0 2)))) (fun _ hk => hk.2) (.int .i64 t140)) (fun _ hk => hk.2) (.slice Ao60 t142.length co60)) (fun _ hk => trivial), belA⟩

end Go.Proofs.Ytogdhclomgafdaa.PFnExactFeedAll

-- Written by a program of this session (the print of the kit with contracts of this session's own added)
import Derived.Test.YtbojabmpcfclhaaZFPTx12
namespace Go.Proofs.Ytbojabmpcfclhaa.PFnPlanTurned
open Go.RowKit Go.Proofs.YtbojabmpcfclhaaW.PrintWords Go.Proofs.YtbojabmpcfclhaaW.PrintLast Go.Proofs.YtbojabmpcfclhaaW.PrintMore Go.Proofs.YtbojabmpcfclhaaW.PrintPack
set_option linter.unusedVariables false
set_option linter.unusedSimpArgs false

def impl_SwapSteps.f (k : Nat) (a0_0 : Int) (a0_1 : Int) (l0_2 : List (S36)) (a1 : Int) : Option (Int × Int × (List (S36)) × Bool) := (impl_isPlan.f k a0_0 a0_1 l0_2).bind fun t167 => (if t167 = true then (if a1 < 0 then (some (0, 0, ([] : List (S36)), false)) else (if a1 ≥ (wrap64 ((l0_2.length : Int) - 1)) then (some (0, 0, ([] : List (S36)), false)) else (if 0 ≤ a1 then (if a1 < (l0_2.length : Int) then (if 0 ≤ (wrap64 (a1 + 1)) then (if (wrap64 (a1 + 1)) < (l0_2.length : Int) then (if ((rd_T36 l0_2 a1).f0) = ((rd_T36 l0_2 (wrap64 (a1 + 1))).f0) then ((some (([] : List (S36)) : List (S36))).bind fun y170 => (if y170.length + l0_2.length < 5864062014805 then ((some (y170 ++ l0_2 : List (S36))).bind fun y173 => (if (wrap64 (a1 + 1)) < (y173.length : Int) then (if a1 < (y173.length : Int) then (some (a0_0, a0_1, ((y173.set (a1 : Int).toNat (⟨(rd_T36 y173 (wrap64 (a1 + 1))).f0, (rd_T36 y173 (wrap64 (a1 + 1))).f1, (rd_T36 y173 (wrap64 (a1 + 1))).f2⟩ : S36)).set ((wrap64 (a1 + 1)) : Int).toNat (⟨(rd_T36 y173 a1).f0, (rd_T36 y173 a1).f1, (rd_T36 y173 a1).f2⟩ : S36)), true)) else (none)) else (none))) else (none))) else (some (0, 0, ([] : List (S36)), false))) else (none)) else (none)) else (none)) else (none)))) else (some (0, 0, ([] : List (S36)), false)))
theorem impl_SwapSteps.mono : ∀ a0 a1 a2 a3 k, LeO (impl_SwapSteps.f k a0 a1 a2 a3) (impl_SwapSteps.f (k + 1) a0 a1 a2 a3) := by
 intro a0 a1 a2 a3 k
 unfold impl_SwapSteps.f
 exact (by repeat' (with_reducible first | exact impl_isPlan.mono _ _ _ _ | exact LeO.refl _ | exact LeO.none _ | refine LeO.ite ?_ ?_ | refine LeO.bind ?_ (fun _ => ?_)))
def impl_SwapSteps.T1 : Bool × List (List Nat × List Nat) := (true, [([], []), ([0], [0]), ([1], [1]), ([2, 1], [2]), ([3], [3]), ([4, 3], [3, 4]), ([3, 5], [3, 5]), ([6, 3], [6]), ([7], [7]), ([7], [7]), ([9, 7], [7, 9]), ([10, 7], [7, 10]), ([11, 7], [7, 11]), ([8, 12, 7], [7, 8, 12]), ([7, 13], [7, 13]), ([14, 7], [14]), ([15], [15]), ([16, 15], [15, 16]), ([15], [15]), ([17, 18, 15], [15, 17, 18]), ([19, 15], [15, 19]), ([20, 15], [15, 20]), ([15], [15]), ([22, 15], [15, 22]), ([15], [15]), ([24, 15], [15, 24]), ([23, 25, 15], [15, 23, 25]), ([26, 15], [15, 26]), ([27, 15], [15, 27]), ([21, 28, 15], [15, 21, 28]), ([15, 29], [15, 29])])
def impl_SwapSteps.B1 : List Nat := [0, 1, 3, 7, 15, 31, 63, 127, 255, 255, 767, 1791, 3839, 8191, 16383, 32767, 65535, 131071, 65535, 524287, 1048575, 2097151, 65535, 4259839, 65535, 16842751, 62980095, 130088959, 264306687, 536870911, 1073741823]
theorem impl_SwapSteps.tab1 : rtab .any (opsOf Try.f36 1) = impl_SwapSteps.T1 := by kernel_rfl
theorem impl_SwapSteps.bits1 : waitsOk impl_SwapSteps.T1.2 impl_SwapSteps.B1 = true := by kernel_rfl
def impl_SwapSteps.T3 : Bool × List (List Nat × List Nat) := (true, [([], []), ([0], [0]), ([], []), ([2], [2]), ([], []), ([], []), ([5], [5]), ([4, 6], [4, 6]), ([1, 3, 7], [1, 3, 7]), ([], []), ([9, 8, 7, 0, 1, 2, 3, 4, 5, 6, 7, 8, 9], [8, 9])])
def impl_SwapSteps.B3 : List Nat := [0, 1, 0, 4, 0, 0, 32, 112, 255, 0, 1023]
theorem impl_SwapSteps.tab3 : rtab .any (opsOf Try.f36 3) = impl_SwapSteps.T3 := by kernel_rfl
theorem impl_SwapSteps.bits3 : waitsOk impl_SwapSteps.T3.2 impl_SwapSteps.B3 = true := by kernel_rfl
theorem impl_SwapSteps.info : (Try.prog.info? 36).map (fun i => (i.zero, i.size, i.bytes)) = some (some (.agg #[(.int .i64 0), (.int .i64 0), (.int .i64 0)]), 3, 24) := by kernel_rfl
set_option maxHeartbeats 8000000 in
set_option maxRecDepth 100000 in
theorem impl_SwapSteps.calls (k : Nat) (a0_0 : Int) (a0_1 : Int) (A0_2 : Option Addr) (c0_2 : Nat) (l0_2 : List (S36)) (a1 : Int) (r1 : Int) (r2 : Int) (r3 : List (S36)) (r4 : Bool) (w : World) (hr0_2 : Kd.C k36 w A0_2 l0_2.length l0_2) (hc0_2 : l0_2.length ≤ c0_2) (h : impl_SwapSteps.f k a0_0 a0_1 l0_2 a1 = some (r1, r2, r3, r4)) :
 Calls Try.prog 36 #[.agg #[.int .i64 a0_0, .int .i64 a0_1, .slice A0_2 l0_2.length c0_2], .int .i64 a1] w fun e w' => ∃ v2_ : Value, e = .returned (.tuple #[.agg #[.int .i64 r1, .int .i64 r2, v2_], .bool r4]) ∧ Kd.R k36 36 w' w.heap.size (fun _ => True) v2_ r3 ∧ Below w.heap.size w w' := by
 have B0 := Try.underlying26; have B2 := Try.underlying36; have g0 := ak hr0_2; have x0 := ak hc0_2; clear hr0_2 hc0_2; have HB := ak (Below.refl w.heap.size w); have H : ((impl_isPlan.f k a0_0 a0_1 l0_2).bind fun z0 => (if z0 = true then (if a1 < 0 then (some (0, 0, ([] : List (S36)), false)) else (if a1 ≥ (wrap64 ((l0_2.length : Int) - 1)) then (some (0, 0, ([] : List (S36)), false)) else (if 0 ≤ a1 then (if a1 < (l0_2.length : Int) then (if 0 ≤ (wrap64 (a1 + 1)) then (if (wrap64 (a1 + 1)) < (l0_2.length : Int) then (if ((rd_T36 l0_2 a1).f0) = ((rd_T36 l0_2 (wrap64 (a1 + 1))).f0) then ((some (([] : List (S36)) : List (S36))).bind fun K0 => (if K0.length + l0_2.length < 5864062014805 then ((some (K0 ++ l0_2 : List (S36))).bind fun K1 => (if (wrap64 (a1 + 1)) < (K1.length : Int) then (if a1 < (K1.length : Int) then (some (a0_0, a0_1, ((K1.set (a1 : Int).toNat (⟨(rd_T36 K1 (wrap64 (a1 + 1))).f0, (rd_T36 K1 (wrap64 (a1 + 1))).f1, (rd_T36 K1 (wrap64 (a1 + 1))).f2⟩ : S36)).set ((wrap64 (a1 + 1)) : Int).toNat (⟨(rd_T36 K1 a1).f0, (rd_T36 K1 a1).f1, (rd_T36 K1 a1).f2⟩ : S36)), true)) else (none)) else (none))) else (none))) else (some (0, 0, ([] : List (S36)), false))) else (none)) else (none)) else (none)) else (none)))) else (some (0, 0, ([] : List (S36)), false)))) = some (r1, r2, r3, r4) := h; clear h; replace H := Option.bind_eq_some_iff.mp H; obtain ⟨z0, Z0, H⟩ := H; (try dsimp only at H); have A3 := ak Z0; clear Z0
 by_cases c4 : z0 = true; rotate_left
 · replace c4 := Bool.eq_false_iff.mpr c4; subst c4; have H1 : (some (0, 0, ([] : List (S36)), false)) = some (r1, r2, r3, r4) := by rw [if_neg (show ¬ (false = true) by decide)] at H; exact H
   clear H; have H := H1; clear H1; simp only [Option.some.injEq, Prod.mk.injEq] at H; obtain ⟨rfl, rfl, rfl, rfl⟩ := H; go_enter Try.func36, Try.ntmps36
   try go_wp2_with (first | ((with_reducible refine gate_dst (N := 2) rfl ?_); (try (refine gate_guard (by rfl) ?_; dsimp only)); refine boxA 2 #[.int .i64 a0_0, .int .i64 a0_1, .slice A0_2 l0_2.length c0_2] 26 ?_; intro c0 hg k0 hbox hb; have C0 := ak hbox; have y0 := leA (w := w) hg; have Y0 := leA (w := w) hg; replace HB := bS hb; clear hb hbox hg) | ((with_reducible refine gate_dst (N := 4) rfl ?_); (try (refine gate_guard (by rfl) ?_; dsimp only)); refine boxA 4 #[.int .i64 0, .int .i64 0, .slice none 0 0] 26 ?_; intro c1 hg k1 hbox hb; have C1 := ak hbox; have y1 := leA (w := w) hg; have Y1 := leA (w := w) hg; have i0 := neL hg C0; have i1 := neG hg C0; replace C0 := bB C0 hb; replace HB := bS hb; clear hb hbox hg))
   replace C0 := ak (blk_drew C0.out); replace C1 := ak (blk_drew C1.out); replace HB := ak (below_drew1 HB.out); refine start_ (n := 31) (S := fun w' => w'.cell? ⟨c0, 0, none⟩ = some (.int .i64 a0_0) ∧ w'.cell? ⟨c0, 1, none⟩ = some (.int .i64 a0_1) ∧ w'.cell? ⟨c0, 2, none⟩ = some (.slice A0_2 l0_2.length c0_2)) (ds := []) _ (by kernel_rfl) rfl rfl ⟨bc C0 0, bc C0 1, bc C0 2⟩ (fun hHeld => ?_); refine with_tabW impl_SwapSteps.tab1 impl_SwapSteps.bits1 (fun HT_ HW_ => ?_)
   generalize k1.drew = k2 at C0 C1 HB hHeld ⊢
   refine tR3 0 7 (ba 31 1) ?_
   refine one_ (i := 1) (N := some 8) (ba 31 3) rfl rfl (one_of HT_.out (by kernel_rfl)) (by decide) (fun K hK => ?_)
   refine goes_ Try.func72 (by kernel_rfl) rfl #[.agg #[.int .i64 a0_0, .int .i64 a0_1, .slice A0_2 l0_2.length c0_2]] (by rfl) rfl rfl xq12 ?_
   with_reducible refine (impl_isPlan.calls k a0_0 a0_1 _ _ l0_2 false _ ?side1 ?side2 A3.out).mono ?_
   (case side1 => exact cA (Kd.C_below g0.out HB.out))
   (case side2 => exact x0.out)
   rintro e k3 ⟨rfl, hb⟩
   refine ⟨_, rfl, ?_⟩
   replace C0 := bB C0 hb; replace C1 := bB C1 hb; replace HB := bS hb; (try clear hb); refine hK.out _ _ ⟨bc C0 0, bc C0 1, bc C0 2⟩ (fun hHeld => ?_)
   clear hK K; refine nR 8 ?_; refine pR 2 9 (ba 31 7) ?_; refine pR 3 10 (ba 31 15) ?_; refine pU 4 11 (ba 31 31) ?_; refine pU 5 12 (ba 31 63) ?_; refine pR 6 13 (ba 31 127) ?_; refine pR 7 14 (ba 31 255) ?_; refine pU 8 15 (ba 31 511) ?_; refine pU 9 16 (ba 31 1023) ?_; refine pU 10 17 (ba 31 2047) ?_; refine pU 11 18 (ba 31 4095) ?_; refine pU 12 19 (ba 31 8191) ?_; refine pU 13 20 (ba 31 16383) ?_; refine pR 14 21 (ba 31 32767) ?_; refine pR 15 22 (ba 31 65535) ?_; refine pU 16 23 (ba 31 131071) ?_; refine pU 17 24 (ba 31 262143) ?_; refine pU 18 25 (ba 31 524287) ?_; refine pU 19 26 (ba 31 1048575) ?_; refine pU 20 27 (ba 31 2097151) ?_; refine pU 21 28 (ba 31 4194303) ?_; refine pU 22 29 (ba 31 8388607) ?_; refine pU 23 30 (ba 31 16777215) ?_; refine pU 24 31 (ba 31 33554431) ?_; refine pU 25 32 (ba 31 67108863) ?_; refine pU 26 33 (ba 31 134217727) ?_; refine pU 27 34 (ba 31 268435455) ?_; refine pU 28 35 (ba 31 536870911) ?_; refine pU 29 36 (ba 31 1073741823) ?_; refine pR 30 37 (ba 31 2147483647) ?_
   refine done_ (done_of HT_.out (by kernel_rfl)) ?_
   have I0 := i1.out; have j3 := i0.out; obtain ⟨_, _, _, _, _, _⟩ := cel3 C1; try go_wp2
   refine bodyPost_ret (results_ct rfl _ _ c1 26 #[.int .i64 0, .int .i64 0, .slice none 0 0] (0, 0) _ rfl xq21 Try.underlying26 rfl (by kernel_rfl)) rfl ?_
   exact ⟨_, xq1, xq13, belA⟩
 subst c4; have H1 : (if a1 < 0 then (some (0, 0, ([] : List (S36)), false)) else (if a1 ≥ (wrap64 ((l0_2.length : Int) - 1)) then (some (0, 0, ([] : List (S36)), false)) else (if 0 ≤ a1 then (if a1 < (l0_2.length : Int) then (if 0 ≤ (wrap64 (a1 + 1)) then (if (wrap64 (a1 + 1)) < (l0_2.length : Int) then (if ((rd_T36 l0_2 a1).f0) = ((rd_T36 l0_2 (wrap64 (a1 + 1))).f0) then ((some (([] : List (S36)) : List (S36))).bind fun K0 => (if K0.length + l0_2.length < 5864062014805 then ((some (K0 ++ l0_2 : List (S36))).bind fun K1 => (if (wrap64 (a1 + 1)) < (K1.length : Int) then (if a1 < (K1.length : Int) then (some (a0_0, a0_1, ((K1.set (a1 : Int).toNat (⟨(rd_T36 K1 (wrap64 (a1 + 1))).f0, (rd_T36 K1 (wrap64 (a1 + 1))).f1, (rd_T36 K1 (wrap64 (a1 + 1))).f2⟩ : S36)).set ((wrap64 (a1 + 1)) : Int).toNat (⟨(rd_T36 K1 a1).f0, (rd_T36 K1 a1).f1, (rd_T36 K1 a1).f2⟩ : S36)), true)) else (none)) else (none))) else (none))) else (some (0, 0, ([] : List (S36)), false))) else (none)) else (none)) else (none)) else (none)))) = some (r1, r2, r3, r4) := by rw [if_pos rfl] at H; exact H
 clear H; have H := H1; clear H1
 by_cases c5 : a1 < 0
 · rw [if_pos c5] at H; have N0 := decide_eq_true c5; clear c5; simp only [Option.some.injEq, Prod.mk.injEq] at H; obtain ⟨rfl, rfl, rfl, rfl⟩ := H; go_enter Try.func36, Try.ntmps36
   try go_wp2_with (first | ((with_reducible refine gate_dst (N := 2) rfl ?_); (try (refine gate_guard (by rfl) ?_; dsimp only)); refine boxA 2 #[.int .i64 a0_0, .int .i64 a0_1, .slice A0_2 l0_2.length c0_2] 26 ?_; intro c0 hg w6 hbox hb; have C0 := ak hbox; have y0 := leA (w := w) hg; have Y0 := leA (w := w) hg; replace HB := bS hb; clear hb hbox hg) | ((with_reducible refine gate_dst (N := 4) rfl ?_); (try (refine gate_guard (by rfl) ?_; dsimp only)); refine boxA 4 #[.int .i64 0, .int .i64 0, .slice none 0 0] 26 ?_; intro c1 hg w7 hbox hb; have C1 := ak hbox; have y1 := leA (w := w) hg; have Y1 := leA (w := w) hg; have i0 := neL hg C0; have i1 := neG hg C0; replace C0 := bB C0 hb; replace HB := bS hb; clear hb hbox hg))
   replace C0 := ak (blk_drew C0.out); replace C1 := ak (blk_drew C1.out); replace HB := ak (below_drew1 HB.out); refine start_ (n := 31) (S := fun w' => w'.cell? ⟨c0, 0, none⟩ = some (.int .i64 a0_0) ∧ w'.cell? ⟨c0, 1, none⟩ = some (.int .i64 a0_1) ∧ w'.cell? ⟨c0, 2, none⟩ = some (.slice A0_2 l0_2.length c0_2)) (ds := []) _ (by kernel_rfl) rfl rfl ⟨bc C0 0, bc C0 1, bc C0 2⟩ (fun hHeld => ?_); refine with_tabW impl_SwapSteps.tab1 impl_SwapSteps.bits1 (fun HT_ HW_ => ?_)
   generalize w7.drew = w8 at C0 C1 HB hHeld ⊢
   refine tR3 0 7 (ba 31 1) ?_
   refine one_ (i := 1) (N := some 8) (ba 31 3) rfl rfl (one_of HT_.out (by kernel_rfl)) (by decide) (fun K hK => ?_)
   refine goes_ Try.func72 (by kernel_rfl) rfl #[.agg #[.int .i64 a0_0, .int .i64 a0_1, .slice A0_2 l0_2.length c0_2]] (by rfl) rfl rfl xq12 ?_
   with_reducible refine (impl_isPlan.calls k a0_0 a0_1 _ _ l0_2 true _ ?side1 ?side2 A3.out).mono ?_
   (case side1 => exact cA (Kd.C_below g0.out HB.out))
   (case side2 => exact x0.out)
   rintro e w9 ⟨rfl, hb⟩
   refine ⟨_, rfl, ?_⟩
   replace C0 := bB C0 hb; replace C1 := bB C1 hb; replace HB := bS hb; (try clear hb); refine hK.out _ _ ⟨bc C0 0, bc C0 1, bc C0 2⟩ (fun hHeld => ?_)
   clear hK K; refine nR 8 ?_; refine pR 2 9 (ba 31 7) ?_; refine pR 3 10 (ba 31 15) ?_; refine pR 4 11 (ba 31 31) ?_; refine pR 5 12 (ba 31 63) ?_; refine pR 6 13 (ba 31 127) ?_; refine pR 7 14 (ba 31 255) ?_; refine pU 8 15 (ba 31 511) ?_; refine pU 9 16 (ba 31 1023) ?_; refine pU 10 17 (ba 31 2047) ?_; refine pU 11 18 (ba 31 4095) ?_; refine pU 12 19 (ba 31 8191) ?_; refine pU 13 20 (ba 31 16383) ?_; refine pR 14 21 (ba 31 32767) ?_; refine pR 15 22 (ba 31 65535) ?_; refine pU 16 23 (ba 31 131071) ?_; refine pU 17 24 (ba 31 262143) ?_; refine pU 18 25 (ba 31 524287) ?_; refine pU 19 26 (ba 31 1048575) ?_; refine pU 20 27 (ba 31 2097151) ?_; refine pU 21 28 (ba 31 4194303) ?_; refine pU 22 29 (ba 31 8388607) ?_; refine pU 23 30 (ba 31 16777215) ?_; refine pU 24 31 (ba 31 33554431) ?_; refine pU 25 32 (ba 31 67108863) ?_; refine pU 26 33 (ba 31 134217727) ?_; refine pU 27 34 (ba 31 268435455) ?_; refine pU 28 35 (ba 31 536870911) ?_; refine pU 29 36 (ba 31 1073741823) ?_; refine pR 30 37 (ba 31 2147483647) ?_
   refine done_ (done_of HT_.out (by kernel_rfl)) ?_
   have I1 := i1.out; have j5 := i0.out; obtain ⟨_, _, _, _, _, _⟩ := cel3 C1; try go_wp2
   refine bodyPost_ret (results_ct rfl _ _ c1 26 #[.int .i64 0, .int .i64 0, .slice none 0 0] (0, 0) _ rfl xq21 Try.underlying26 rfl (by kernel_rfl)) rfl ?_
   exact ⟨_, xq1, xq13, belA⟩
 rw [if_neg c5] at H; have N0 := decide_eq_false c5; clear c5
 by_cases N1 : a1 ≥ (wrap64 ((l0_2.length : Int) - 1))
 · rw [if_pos N1] at H; have N2 : decide ((wrap64 ((l0_2.length : Int) - 1)) ≤ a1) = true := decide_eq_true N1; have N3 : decide ((IntKind.i64.wrap ((l0_2.length : Int) - 1)) ≤ a1) = true := by simp only [i64_w]; exact N2
   clear N1; simp only [Option.some.injEq, Prod.mk.injEq] at H; obtain ⟨rfl, rfl, rfl, rfl⟩ := H; go_enter Try.func36, Try.ntmps36
   try go_wp2_with (first | ((with_reducible refine gate_dst (N := 2) rfl ?_); (try (refine gate_guard (by rfl) ?_; dsimp only)); refine boxA 2 #[.int .i64 a0_0, .int .i64 a0_1, .slice A0_2 l0_2.length c0_2] 26 ?_; intro c0 hg k4 hbox hb; have C0 := ak hbox; have y0 := leA (w := w) hg; have Y0 := leA (w := w) hg; replace HB := bS hb; clear hb hbox hg) | ((with_reducible refine gate_dst (N := 4) rfl ?_); (try (refine gate_guard (by rfl) ?_; dsimp only)); refine boxA 4 #[.int .i64 0, .int .i64 0, .slice none 0 0] 26 ?_; intro c1 hg k5 hbox hb; have C1 := ak hbox; have y1 := leA (w := w) hg; have Y1 := leA (w := w) hg; have i0 := neL hg C0; have i1 := neG hg C0; replace C0 := bB C0 hb; replace HB := bS hb; clear hb hbox hg))
   replace C0 := ak (blk_drew C0.out); replace C1 := ak (blk_drew C1.out); replace HB := ak (below_drew1 HB.out); refine start_ (n := 31) (S := fun w' => w'.cell? ⟨c0, 0, none⟩ = some (.int .i64 a0_0) ∧ w'.cell? ⟨c0, 1, none⟩ = some (.int .i64 a0_1) ∧ w'.cell? ⟨c0, 2, none⟩ = some (.slice A0_2 l0_2.length c0_2)) (ds := []) _ (by kernel_rfl) rfl rfl ⟨bc C0 0, bc C0 1, bc C0 2⟩ (fun hHeld => ?_); refine with_tabW impl_SwapSteps.tab1 impl_SwapSteps.bits1 (fun HT_ HW_ => ?_)
   generalize k5.drew = k6 at C0 C1 HB hHeld ⊢
   refine tR3 0 7 (ba 31 1) ?_
   refine one_ (i := 1) (N := some 8) (ba 31 3) rfl rfl (one_of HT_.out (by kernel_rfl)) (by decide) (fun K hK => ?_)
   refine goes_ Try.func72 (by kernel_rfl) rfl #[.agg #[.int .i64 a0_0, .int .i64 a0_1, .slice A0_2 l0_2.length c0_2]] (by rfl) rfl rfl xq12 ?_
   with_reducible refine (impl_isPlan.calls k a0_0 a0_1 _ _ l0_2 true _ ?side1 ?side2 A3.out).mono ?_
   (case side1 => exact cA (Kd.C_below g0.out HB.out))
   (case side2 => exact x0.out)
   rintro e k7 ⟨rfl, hb⟩
   refine ⟨_, rfl, ?_⟩
   replace C0 := bB C0 hb; replace C1 := bB C1 hb; replace HB := bS hb; (try clear hb); refine hK.out _ _ ⟨bc C0 0, bc C0 1, bc C0 2⟩ (fun hHeld => ?_)
   clear hK K; refine nR 8 ?_; refine pR 2 9 (ba 31 7) ?_; refine pR 3 10 (ba 31 15) ?_; refine pR 4 11 (ba 31 31) ?_; refine pR 5 12 (ba 31 63) ?_; refine pR 6 13 (ba 31 127) ?_; refine pR 7 14 (ba 31 255) ?_; refine pR 8 15 (ba 31 511) ?_; refine pR 9 16 (ba 31 1023) ?_; refine tR3 10 17 (ba 31 2047) ?_; refine pR 11 18 (ba 31 4095) ?_; refine pR 12 19 (ba 31 8191) ?_; refine pR 13 20 (ba 31 16383) ?_; refine pR 14 21 (ba 31 32767) ?_; refine pR 15 22 (ba 31 65535) ?_; refine pU 16 23 (ba 31 131071) ?_; refine pU 17 24 (ba 31 262143) ?_; refine pU 18 25 (ba 31 524287) ?_; refine pU 19 26 (ba 31 1048575) ?_; refine pU 20 27 (ba 31 2097151) ?_; refine pU 21 28 (ba 31 4194303) ?_; refine pU 22 29 (ba 31 8388607) ?_; refine pU 23 30 (ba 31 16777215) ?_; refine pU 24 31 (ba 31 33554431) ?_; refine pU 25 32 (ba 31 67108863) ?_; refine pU 26 33 (ba 31 134217727) ?_; refine pU 27 34 (ba 31 268435455) ?_; refine pU 28 35 (ba 31 536870911) ?_; refine pU 29 36 (ba 31 1073741823) ?_; refine pR 30 37 (ba 31 2147483647) ?_
   refine done_ (done_of HT_.out (by kernel_rfl)) ?_
   have I2 := i1.out; have j6 := i0.out; obtain ⟨_, _, _, _, _, _⟩ := cel3 C1; try go_wp2
   refine bodyPost_ret (results_ct rfl _ _ c1 26 #[.int .i64 0, .int .i64 0, .slice none 0 0] (0, 0) _ rfl xq21 Try.underlying26 rfl (by kernel_rfl)) rfl ?_
   exact ⟨_, xq1, xq13, belA⟩
 rw [if_neg N1] at H; have N2 : decide ((wrap64 ((l0_2.length : Int) - 1)) ≤ a1) = false := decide_eq_false N1; have N3 : decide ((IntKind.i64.wrap ((l0_2.length : Int) - 1)) ≤ a1) = false := by simp only [i64_w]; exact N2
 clear N1
 by_cases N4 : 0 ≤ a1; rotate_left
 · rw [if_neg N4] at H; exact absurd H (by simp)
 rw [if_pos N4] at H; have N5 := decide_eq_true N4; clear N4
 by_cases N6 : a1 < (l0_2.length : Int); rotate_left
 · rw [if_neg N6] at H; exact absurd H (by simp)
 rw [if_pos N6] at H; have N7 := decide_eq_true N6; clear N6; obtain ⟨J0, G0⟩ : ∃ j_ : Int, (wrap64 (a1 + 1)) = j_ := ⟨_, rfl⟩; replace H : (if 0 ≤ (J0) then (if (J0) < (l0_2.length : Int) then (if ((rd_T36 l0_2 a1).f0) = ((rd_T36 l0_2 (J0)).f0) then ((some (([] : List (S36)) : List (S36))).bind fun K0 => (if K0.length + l0_2.length < 5864062014805 then ((some (K0 ++ l0_2 : List (S36))).bind fun K1 => (if (J0) < (K1.length : Int) then (if a1 < (K1.length : Int) then (some (a0_0, a0_1, ((K1.set (a1 : Int).toNat (⟨(rd_T36 K1 (J0)).f0, (rd_T36 K1 (J0)).f1, (rd_T36 K1 (J0)).f2⟩ : S36)).set ((J0) : Int).toNat (⟨(rd_T36 K1 a1).f0, (rd_T36 K1 a1).f1, (rd_T36 K1 a1).f2⟩ : S36)), true)) else (none)) else (none))) else (none))) else (some (0, 0, ([] : List (S36)), false))) else (none)) else (none)) = some (r1, r2, r3, r4) := by first | (rw [G0] at H; exact H) | (simp only [G0] at H ⊢; exact H)
 (try rw [G0] at A3)
 have hji21w : (IntKind.i64.wrap (a1 + 1)) = J0 := (i64_w _).trans G0
 by_cases N8 : 0 ≤ (J0); rotate_left
 · rw [if_neg N8] at H; exact absurd H (by simp)
 rw [if_pos N8] at H; have N9 := decide_eq_true N8; clear N8
 by_cases Na : (J0) < (l0_2.length : Int); rotate_left
 · rw [if_neg Na] at H; exact absurd H (by simp)
 rw [if_pos Na] at H; have Nb := decide_eq_true Na; clear Na
 by_cases Nc : ((rd_T36 l0_2 a1).f0) = ((rd_T36 l0_2 (J0)).f0); rotate_left
 · rw [if_neg Nc] at H; have Nd : (((rd_T36 l0_2 a1).f0) == ((rd_T36 l0_2 (J0)).f0)) = false := beq_eq_false_iff_ne.mpr Nc; have Ne : (((rd_T36 l0_2 a1).f0) != ((rd_T36 l0_2 (J0)).f0)) = true := bne_iff_ne.mpr Nc; simp only [Option.some.injEq, Prod.mk.injEq] at H; obtain ⟨rfl, rfl, rfl, rfl⟩ := H; go_enter Try.func36, Try.ntmps36
   try go_wp2_with (first | ((with_reducible refine gate_dst (N := 2) rfl ?_); (try (refine gate_guard (by rfl) ?_; dsimp only)); refine boxA 2 #[.int .i64 a0_0, .int .i64 a0_1, .slice A0_2 l0_2.length c0_2] 26 ?_; intro c0 hg k8 hbox hb; have C0 := ak hbox; have y0 := leA (w := w) hg; have Y0 := leA (w := w) hg; replace HB := bS hb; clear hb hbox hg) | ((with_reducible refine gate_dst (N := 4) rfl ?_); (try (refine gate_guard (by rfl) ?_; dsimp only)); refine boxA 4 #[.int .i64 0, .int .i64 0, .slice none 0 0] 26 ?_; intro c1 hg k9 hbox hb; have C1 := ak hbox; have y1 := leA (w := w) hg; have Y1 := leA (w := w) hg; have i0 := neL hg C0; have i1 := neG hg C0; replace C0 := bB C0 hb; replace HB := bS hb; clear hb hbox hg))
   replace C0 := ak (blk_drew C0.out); replace C1 := ak (blk_drew C1.out); replace HB := ak (below_drew1 HB.out); have v0 : 0 ≤ (a1 : Int) := odA; have V0 : a1 < (l0_2.length : Int) := odA; obtain ⟨a5, A0, o0, o1, o2⟩ := at_T36 g0.out a1 v0 V0; have h0 := o2; have h1 := o1; have h2 := o0
   cases A0
   try replace o0 := cB HB o0
   try replace o1 := cB HB o1
   try replace o2 := cB HB o2
   replace v0 := eq_true v0; replace V0 := eq_true V0; have v1 : 0 ≤ ((J0) : Int) := odA; have V1 : (J0) < (l0_2.length : Int) := odA; obtain ⟨a6, A1, o3, o4, o5⟩ := at_T36 g0.out (J0) v1 V1; have h3 := o5; have h4 := o4; have h5 := o3; obtain rfl : a5 = a6 := (by injection A1); try replace o3 := cB HB o3
   try replace o4 := cB HB o4
   try replace o5 := cB HB o5
   replace v1 := eq_true v1; replace V1 := eq_true V1; refine start_ (n := 31) (S := fun w' => w'.cell? ⟨c0, 0, none⟩ = some (.int .i64 a0_0) ∧ w'.cell? ⟨c0, 1, none⟩ = some (.int .i64 a0_1) ∧ w'.cell? ⟨c0, 2, none⟩ = some (.slice (some a5) l0_2.length c0_2) ∧ w'.cell? (a5.add ((a1).toNat * 3)) = some (.int .i64 ((rd_T36 l0_2 a1).f0)) ∧ w'.cell? ⟨(a5.add ((a1).toNat * 3)).block, (a5.add ((a1).toNat * 3)).off + 1, none⟩ = some (.int .i64 ((rd_T36 l0_2 a1).f1)) ∧ w'.cell? ⟨(a5.add ((a1).toNat * 3)).block, (a5.add ((a1).toNat * 3)).off + 2, none⟩ = some (.int .i64 ((rd_T36 l0_2 a1).f2)) ∧ w'.cell? (a5.add (((J0)).toNat * 3)) = some (.int .i64 ((rd_T36 l0_2 (J0)).f0)) ∧ w'.cell? ⟨(a5.add (((J0)).toNat * 3)).block, (a5.add (((J0)).toNat * 3)).off + 1, none⟩ = some (.int .i64 ((rd_T36 l0_2 (J0)).f1)) ∧ w'.cell? ⟨(a5.add (((J0)).toNat * 3)).block, (a5.add (((J0)).toNat * 3)).off + 2, none⟩ = some (.int .i64 ((rd_T36 l0_2 (J0)).f2))) (ds := []) _ (by kernel_rfl) rfl rfl ⟨bc C0 0, bc C0 1, bc C0 2, (cB HB h2), (cB HB h1), (cB HB h0), (cB HB h5), (cB HB h4), (cB HB h3)⟩ (fun hHeld => ?_); refine with_tabW impl_SwapSteps.tab1 impl_SwapSteps.bits1 (fun HT_ HW_ => ?_)
   generalize k9.drew = ka at C0 C1 HB o0 o1 o2 o3 o4 o5 hHeld ⊢
   refine tR9 0 7 (ba 31 1) ?_
   refine one_ (i := 1) (N := some 8) (ba 31 3) rfl rfl (one_of HT_.out (by kernel_rfl)) (by decide) (fun K hK => ?_)
   refine goes_ Try.func72 (by kernel_rfl) rfl #[.agg #[.int .i64 a0_0, .int .i64 a0_1, .slice (some a5) l0_2.length c0_2]] (by rfl) rfl rfl xq12 ?_
   with_reducible refine (impl_isPlan.calls k a0_0 a0_1 _ _ l0_2 true _ ?side1 ?side2 A3.out).mono ?_
   (case side1 => exact cA (Kd.C_below g0.out HB.out))
   (case side2 => exact x0.out)
   rintro e kb ⟨rfl, hb⟩
   refine ⟨_, rfl, ?_⟩
   replace C0 := bB C0 hb; replace C1 := bB C1 hb; replace HB := bS hb; (try clear hb); refine hK.out _ _ ⟨bc C0 0, bc C0 1, bc C0 2, (cB HB h2), (cB HB h1), (cB HB h0), (cB HB h5), (cB HB h4), (cB HB h3)⟩ (fun hHeld => ?_)
   clear hK K; refine nR 8 ?_; refine pR 2 9 (ba 31 7) ?_; refine pR 3 10 (ba 31 15) ?_; refine pR 4 11 (ba 31 31) ?_; refine pR 5 12 (ba 31 63) ?_; refine pR 6 13 (ba 31 127) ?_; refine pR 7 14 (ba 31 255) ?_; refine pR 8 15 (ba 31 511) ?_; refine pR 9 16 (ba 31 1023) ?_; refine tR9 10 17 (ba 31 2047) ?_; refine pR 11 18 (ba 31 4095) ?_; refine pR 12 19 (ba 31 8191) ?_; refine pR 13 20 (ba 31 16383) ?_; refine pR 14 21 (ba 31 32767) ?_; refine pR 15 22 (ba 31 65535) ?_; refine pR 16 23 (ba 31 131071) ?_; refine pR 18 25 (ba 31 393215) ?_; refine pR 22 29 (ba 31 4587519) ?_; refine pR 24 31 (ba 31 21364735) ?_; refine pR 25 32 (ba 31 54919167) ?_; refine tR9 17 24 (ba 31 55050239) ?_; refine pR 19 26 (ba 31 55574527) ?_; refine pR 20 27 (ba 31 56623103) ?_; refine tR9 21 28 (ba 31 58720255) ?_; refine tR9 23 30 (ba 31 67108863) ?_; refine pR 26 33 (ba 31 134217727) ?_; refine pR 27 34 (ba 31 268435455) ?_; refine tR9 28 35 (ba 31 536870911) ?_; refine pR 29 36 (ba 31 1073741823) ?_; refine pR 30 37 (ba 31 2147483647) ?_
   refine done_ (done_of HT_.out (by kernel_rfl)) ?_
   have I3 := i1.out; have j7 := i0.out; obtain ⟨_, _, _, _, _, _⟩ := cel3 C1; try go_wp2
   refine bodyPost_ret (results_ct rfl _ _ c1 26 #[.int .i64 0, .int .i64 0, .slice none 0 0] (0, 0) _ rfl xq21 Try.underlying26 rfl (by kernel_rfl)) rfl ?_
   exact ⟨_, xq37, xq13, belA⟩
 rw [if_pos Nc] at H; have Nd : (((rd_T36 l0_2 a1).f0) == ((rd_T36 l0_2 (J0)).f0)) = true := beq_iff_eq.mpr Nc; have Ne : (((rd_T36 l0_2 a1).f0) != ((rd_T36 l0_2 (J0)).f0)) = false := bne_eq_false_iff_eq.mpr Nc; clear Nc; obtain ⟨K0, hyq⟩ : ∃ y_ : List (S36), y_ = (([] : List (S36))) := ⟨_, rfl⟩; replace H : (if K0.length + l0_2.length < 5864062014805 then ((some (K0 ++ l0_2 : List (S36))).bind fun K1 => (if (J0) < (K1.length : Int) then (if a1 < (K1.length : Int) then (some (a0_0, a0_1, ((K1.set (a1 : Int).toNat (⟨(rd_T36 K1 (J0)).f0, (rd_T36 K1 (J0)).f1, (rd_T36 K1 (J0)).f2⟩ : S36)).set ((J0) : Int).toNat (⟨(rd_T36 K1 a1).f0, (rd_T36 K1 a1).f1, (rd_T36 K1 a1).f2⟩ : S36)), true)) else (none)) else (none))) else (none)) = some (r1, r2, r3, r4) := by first | (rw [hyq]; with_reducible exact H) | (have e0 := (Option.bind_some _ _).symm.trans H; rw [hyq]; with_reducible exact e0) | (have e0 := (Option.bind_some _ _).symm.trans H; with_reducible exact e0) | with_reducible exact H | (rw [hyq]; exact H) | exact H
 have E0 := ak hyq; clear hyq
 by_cases Nf : K0.length + l0_2.length < 5864062014805; rotate_left
 · rw [if_neg Nf] at H; exact absurd H (by simp)
 rw [if_pos Nf] at H; have ca := ak Nf; clear Nf; obtain ⟨K1, hyq⟩ : ∃ y_ : List (S36), y_ = (K0 ++ l0_2) := ⟨_, rfl⟩; replace H : (if (J0) < (K1.length : Int) then (if a1 < (K1.length : Int) then (some (a0_0, a0_1, ((K1.set (a1 : Int).toNat (⟨(rd_T36 K1 (J0)).f0, (rd_T36 K1 (J0)).f1, (rd_T36 K1 (J0)).f2⟩ : S36)).set ((J0) : Int).toNat (⟨(rd_T36 K1 a1).f0, (rd_T36 K1 a1).f1, (rd_T36 K1 a1).f2⟩ : S36)), true)) else (none)) else (none)) = some (r1, r2, r3, r4) := by first | (rw [hyq]; with_reducible exact H) | (have e0 := (Option.bind_some _ _).symm.trans H; rw [hyq]; with_reducible exact e0) | (have e0 := (Option.bind_some _ _).symm.trans H; with_reducible exact e0) | with_reducible exact H | (rw [hyq]; exact H) | exact H
 have E1 := ak hyq; clear hyq
 by_cases Ng : (J0) < (K1.length : Int); rotate_left
 · rw [if_neg Ng] at H; exact absurd H (by simp)
 rw [if_pos Ng] at H; have Nh := decide_eq_true Ng; clear Ng
 by_cases Nk : a1 < (K1.length : Int); rotate_left
 · rw [if_neg Nk] at H; exact absurd H (by simp)
 rw [if_pos Nk] at H; have Nl := decide_eq_true Nk; clear Nk; obtain ⟨K2, hyq⟩ : ∃ y_ : List (S36), y_ = (K1.set (a1 : Int).toNat (⟨(rd_T36 K1 (J0)).f0, (rd_T36 K1 (J0)).f1, (rd_T36 K1 (J0)).f2⟩ : S36)) := ⟨_, rfl⟩; replace H : (some (a0_0, a0_1, (K2.set ((J0) : Int).toNat (⟨(rd_T36 K1 a1).f0, (rd_T36 K1 a1).f1, (rd_T36 K1 a1).f2⟩ : S36)), true)) = some (r1, r2, r3, r4) := by first | (rw [hyq]; with_reducible exact H) | (have e0 := (Option.bind_some _ _).symm.trans H; rw [hyq]; with_reducible exact e0) | (have e0 := (Option.bind_some _ _).symm.trans H; with_reducible exact e0) | with_reducible exact H | (rw [hyq]; exact H) | exact H
 have E2 := ak hyq; clear hyq; obtain ⟨K3, hyq⟩ : ∃ y_ : List (S36), y_ = (K2.set ((J0) : Int).toNat (⟨(rd_T36 K1 a1).f0, (rd_T36 K1 a1).f1, (rd_T36 K1 a1).f2⟩ : S36)) := ⟨_, rfl⟩; replace H : (some (a0_0, a0_1, K3, true)) = some (r1, r2, r3, r4) := by first | (rw [hyq]; with_reducible exact H) | (have e0 := (Option.bind_some _ _).symm.trans H; rw [hyq]; with_reducible exact e0) | (have e0 := (Option.bind_some _ _).symm.trans H; with_reducible exact e0) | with_reducible exact H | (rw [hyq]; exact H) | exact H
 have E3 := ak hyq; clear hyq; simp only [Option.some.injEq, Prod.mk.injEq] at H; obtain ⟨rfl, rfl, rfl, rfl⟩ := H; go_enter Try.func36, Try.ntmps36
 try go_wp2_with (first | ((with_reducible refine gate_dst (N := 2) rfl ?_); (try (refine gate_guard (by rfl) ?_; dsimp only)); refine boxA 2 #[.int .i64 a0_0, .int .i64 a0_1, .slice A0_2 l0_2.length c0_2] 26 ?_; intro c0 hg kc hbox hb; have C0 := ak hbox; have y0 := leA (w := w) hg; have Y0 := leA (w := w) hg; replace HB := bS hb; clear hb hbox hg) | ((with_reducible refine gate_dst (N := 4) rfl ?_); (try (refine gate_guard (by rfl) ?_; dsimp only)); refine boxA 4 #[.int .i64 0, .int .i64 0, .slice none 0 0] 26 ?_; intro c1 hg kd hbox hb; have C1 := ak hbox; have y1 := leA (w := w) hg; have Y1 := leA (w := w) hg; have i0 := neL hg C0; have i1 := neG hg C0; replace C0 := bB C0 hb; replace HB := bS hb; clear hb hbox hg))
 replace C0 := ak (blk_drew C0.out); replace C1 := ak (blk_drew C1.out); replace HB := ak (below_drew1 HB.out); have v0 : 0 ≤ (a1 : Int) := odA; have V0 : a1 < (l0_2.length : Int) := odA; obtain ⟨a5, A0, o0, o1, o2⟩ := at_T36 g0.out a1 v0 V0; have h0 := o2; have h1 := o1; have h2 := o0
 cases A0
 try replace o0 := cB HB o0
 try replace o1 := cB HB o1
 try replace o2 := cB HB o2
 replace v0 := eq_true v0; replace V0 := eq_true V0; have v1 : 0 ≤ ((J0) : Int) := odA; have V1 : (J0) < (l0_2.length : Int) := odA; obtain ⟨a6, A1, o3, o4, o5⟩ := at_T36 g0.out (J0) v1 V1; have h3 := o5; have h4 := o4; have h5 := o3; obtain rfl : a5 = a6 := (by injection A1); try replace o3 := cB HB o3
 try replace o4 := cB HB o4
 try replace o5 := cB HB o5
 replace v1 := eq_true v1; replace V1 := eq_true V1; refine start_ (n := 31) (S := fun w' => w'.cell? ⟨c0, 0, none⟩ = some (.int .i64 a0_0) ∧ w'.cell? ⟨c0, 1, none⟩ = some (.int .i64 a0_1) ∧ w'.cell? ⟨c0, 2, none⟩ = some (.slice (some a5) l0_2.length c0_2) ∧ w'.cell? (a5.add ((a1).toNat * 3)) = some (.int .i64 ((rd_T36 l0_2 a1).f0)) ∧ w'.cell? ⟨(a5.add ((a1).toNat * 3)).block, (a5.add ((a1).toNat * 3)).off + 1, none⟩ = some (.int .i64 ((rd_T36 l0_2 a1).f1)) ∧ w'.cell? ⟨(a5.add ((a1).toNat * 3)).block, (a5.add ((a1).toNat * 3)).off + 2, none⟩ = some (.int .i64 ((rd_T36 l0_2 a1).f2)) ∧ w'.cell? (a5.add (((J0)).toNat * 3)) = some (.int .i64 ((rd_T36 l0_2 (J0)).f0)) ∧ w'.cell? ⟨(a5.add (((J0)).toNat * 3)).block, (a5.add (((J0)).toNat * 3)).off + 1, none⟩ = some (.int .i64 ((rd_T36 l0_2 (J0)).f1)) ∧ w'.cell? ⟨(a5.add (((J0)).toNat * 3)).block, (a5.add (((J0)).toNat * 3)).off + 2, none⟩ = some (.int .i64 ((rd_T36 l0_2 (J0)).f2))) (ds := []) _ (by kernel_rfl) rfl rfl ⟨bc C0 0, bc C0 1, bc C0 2, (cB HB h2), (cB HB h1), (cB HB h0), (cB HB h5), (cB HB h4), (cB HB h3)⟩ (fun hHeld => ?_); refine with_tabW impl_SwapSteps.tab1 impl_SwapSteps.bits1 (fun HT_ HW_ => ?_)
 generalize kd.drew = ke at C0 C1 HB o0 o1 o2 o3 o4 o5 hHeld ⊢
 refine tR9 0 7 (ba 31 1) ?_
 refine one_ (i := 1) (N := some 8) (ba 31 3) rfl rfl (one_of HT_.out (by kernel_rfl)) (by decide) (fun K hK => ?_)
 refine goes_ Try.func72 (by kernel_rfl) rfl #[.agg #[.int .i64 a0_0, .int .i64 a0_1, .slice (some a5) l0_2.length c0_2]] (by rfl) rfl rfl xq12 ?_
 with_reducible refine (impl_isPlan.calls k a0_0 a0_1 _ _ l0_2 true _ ?side1 ?side2 A3.out).mono ?_
 (case side1 => exact cA (Kd.C_below g0.out HB.out))
 (case side2 => exact x0.out)
 rintro e kf ⟨rfl, hb⟩
 refine ⟨_, rfl, ?_⟩
 replace C0 := bB C0 hb; replace C1 := bB C1 hb; replace HB := bS hb; (try clear hb); refine hK.out _ _ ⟨bc C0 0, bc C0 1, bc C0 2, (cB HB h2), (cB HB h1), (cB HB h0), (cB HB h5), (cB HB h4), (cB HB h3)⟩ (fun hHeld => ?_)
 clear hK K; refine nR 8 ?_; refine pR 2 9 (ba 31 7) ?_; refine pR 3 10 (ba 31 15) ?_; refine pR 4 11 (ba 31 31) ?_; refine pR 5 12 (ba 31 63) ?_; refine pR 6 13 (ba 31 127) ?_; refine pR 7 14 (ba 31 255) ?_; refine pR 8 15 (ba 31 511) ?_; refine pR 9 16 (ba 31 1023) ?_; refine tR9 10 17 (ba 31 2047) ?_; refine pR 11 18 (ba 31 4095) ?_; refine pR 12 19 (ba 31 8191) ?_; refine pR 13 20 (ba 31 16383) ?_; refine pR 14 21 (ba 31 32767) ?_; refine pR 15 22 (ba 31 65535) ?_; refine pR 16 23 (ba 31 131071) ?_; refine pR 18 25 (ba 31 393215) ?_; refine pR 22 29 (ba 31 4587519) ?_; refine pR 24 31 (ba 31 21364735) ?_; refine pR 25 32 (ba 31 54919167) ?_; refine tR9 17 24 (ba 31 55050239) ?_; refine pR 19 26 (ba 31 55574527) ?_; refine pR 20 27 (ba 31 56623103) ?_; refine tR9 21 28 (ba 31 58720255) ?_; refine tR9 23 30 (ba 31 67108863) ?_; refine pR 26 33 (ba 31 134217727) ?_; refine pR 27 34 (ba 31 268435455) ?_; refine tR9 28 35 (ba 31 536870911) ?_; refine pR 29 36 (ba 31 1073741823) ?_; refine pR 30 37 (ba 31 2147483647) ?_
 refine done_ (done_of HT_.out (by kernel_rfl)) ?_
 try go_wp2
 replace C0 := ak (blk_drew C0.out); replace C1 := ak (blk_drew C1.out); replace HB := ak (below_drew1 HB.out); refine start_ (n := 11) (S := fun w' => w'.cell? ⟨c0, 0, none⟩ = some (.int .i64 a0_0) ∧ w'.cell? ⟨c0, 1, none⟩ = some (.int .i64 a0_1) ∧ w'.cell? ⟨c0, 2, none⟩ = some (.slice (some a5) l0_2.length c0_2)) (ds := []) _ (by kernel_rfl) rfl rfl ⟨bc C0 0, bc C0 1, bc C0 2⟩ (fun hHeld => ?_); refine with_tabW impl_SwapSteps.tab3 impl_SwapSteps.bits3 (fun HT_ HW_ => ?_)
 generalize kf.drew = kg at C0 C1 HB hHeld ⊢
 refine pR 0 39 (ba 11 1) ?_; refine pR 2 41 (ba 11 5) ?_; refine pR 5 44 (ba 11 37) ?_; refine tR3 1 40 (ba 11 39) ?_; refine tR3 3 42 (ba 11 47) ?_; refine tR3 6 45 (ba 11 111) ?_
 refine join_ (σ := Value × Value × Nat) 1 (ba 11 1023) (fun s_ => [(43, s_.1), (46, s_.2.1), (6, .pointer (some ⟨s_.2.2, 0, none⟩)), (47, .agg #[.int .i64 a0_0, .int .i64 a0_1, s_.2.1])]) (fun s_ w' => (w'.cell? ⟨c0, 0, none⟩ = some (.int .i64 a0_0) ∧ w'.cell? ⟨c0, 1, none⟩ = some (.int .i64 a0_1) ∧ w'.cell? ⟨c0, 2, none⟩ = some (.slice (some a5) l0_2.length c0_2)) ∧ (Kd.R k36 36 w' w.heap.size (fun _ => True) s_.2.1 K1) ∧ (w'.heap[c0]? = some (.cells #[.int .i64 a0_0, .int .i64 a0_1, .slice (some a5) l0_2.length c0_2] 26 (0, 0))) ∧ (w'.heap[c1]? = some (.cells #[.int .i64 0, .int .i64 0, .slice none 0 0] 26 (0, 0))) ∧ (w'.heap[s_.2.2]? = some (.cells #[.int .i64 0, .int .i64 0, .slice none 0 0] 26 (0, 0))) ∧ (w.heap.size ≤ s_.2.2) ∧ (w.heap.size ≤ s_.2.2) ∧ (c0 ≠ s_.2.2) ∧ (s_.2.2 ≠ c0) ∧ (c1 ≠ s_.2.2) ∧ (s_.2.2 ≠ c1) ∧ (Below w.heap.size w w')) ?_ ?_
 rotate_left
 · intro hCont; refine two_ (i := 4) (j := 9) (Ni := some 43) (Nj := some 6) (ba 11 127) (ba 11 623) rfl rfl rfl rfl (two_of HT_.out (by kernel_rfl)) (by decide) (by decide) (fun K hK => ?_) (fun K hK => ?_)
   · skip
     refine Kd.R_lit_step k36 _ 36 ?hg (N := 43) ?hd (xs := ([] : List (S36))) (inner := []) (ok := fun _ => True) (okp := fun _ => True) ?hr ?hp (fun _ hk => hk) trivial (Below.refl _ _) (Nat.le_refl _) (by simp) ?_; (case hd => rfl); (case hg => rfl); (case hr => exact xq4); (case hp => exact (Reps.none _ _))
     intro d0 kh D0 hb hg_ hnew_; clear hg_ hnew_; (first | rw [← E0.out] at D0 | (simp only [Int.reduceToNat] at D0; rw [← E0.out] at D0))
     have f3 := rL D0; replace C0 := bB C0 hb; replace C1 := bB C1 hb; replace HB := bS hb; clear hb D0; refine hK.out _ _ ⟨bc C0 0, bc C0 1, bc C0 2⟩ (fun hHeld => ?_)
     clear hK K; refine nR 43 ?_
     refine two_ (i := 7) (j := 9) (Ni := some 46) (Nj := some 6) (ba 11 255) (ba 11 639) rfl rfl rfl rfl (two_of HT_.out (by kernel_rfl)) (by decide) (by decide) (fun K hK => ?_) (fun K hK => ?_)
     · skip
       refine Kd.R_append_rows_step k36 (w0 := w) w.heap.size (by rfl) (.tmp 43) (.tmp 45) 24 36 (.agg #[(.int .i64 0), (.int .i64 0), (.int .i64 0)]) 24 rfl Try.underlying24 impl_SwapSteps.info rfl (by decide) (by omega) d0 K0 l0_2 _ _ _ (fun _ => True) (fun _ => False) rfl rfl ?aO ?aR (fun _ _ h => h) (fun _ h => h.elim) ?aF ?aB ?aS ?aL ?_
       (case aR => exact xq50)
       (case aB => exact belA)
       (case aF => exact (fun _ _ => trivial))
       (case aO => exact (rF f3))
       (case aS => exact (below_size belA))
       (case aL => exact xq28)
       intro d1 ki ho hb hg hat; rw [← E1.out] at ho; have x1 := ak (blk_grown (g := c0) (o := .cells #[.int .i64 a0_0, .int .i64 a0_1, .slice (some a5) l0_2.length c0_2] 26 (0, 0)) blkA hg (Kd.R_ne f3.out C0.out (by decide))); have x2 := ak (blk_grown (g := c1) (o := .cells #[.int .i64 0, .int .i64 0, .slice none 0 0] 26 (0, 0)) blkA hg (Kd.R_ne f3.out C1.out (by decide))); have x3 := ak hb; have x4 := ak ho; clear C0; clear C1; clear HB; clear f3; have C0 := x1; have C1 := x2; have HB := x3; have f4 := x4; clear x1 x2 x3 x4; clear ho hb hg hat; obtain ⟨F0, l6, L0⟩ := Kd.R_slice f4.out; (first | subst L0 | (injection L0 with C2 C3 C4; have C5 := C2.symm; have C6 := C4.symm; clear C2 C3 C4; subst C5; subst C6))
       refine hK.out _ _ ⟨bc C0 0, bc C0 1, bc C0 2⟩ (fun hHeld => ?_)
       clear hK K; refine nR 46 ?_; refine pR 8 47 (ba 11 511) ?_
       refine one_ (i := 9) (N := some 6) (ba 11 1023) rfl rfl (one_of HT_.out (by kernel_rfl)) (by decide) (fun K hK => ?_)
       refine box_step ?hg (N := 6) ?hd (cs := #[.int .i64 0, .int .i64 0, .slice none 0 0]) (t := 26) ?hr ?_; (case hd => rfl); (case hg => rfl); (case hr => exact xq4)
       intro cb hg kj hbox hb; have C7 := ak hbox; have y2 := leA (w := w) hg; have Y2 := leA (w := w) hg; have i2 := neL hg C0; have i3 := neG hg C0; have i4 := neL hg C1; have i5 := neG hg C1; replace f4 := ak (Kd.R_below (rF f4) hb); replace C0 := bB C0 hb; replace C1 := bB C1 hb; replace HB := bS hb; clear hb hbox hg; refine hK.out _ _ ⟨bc C0 0, bc C0 1, bc C0 2⟩ (fun hHeld => ?_)
       clear hK K; refine nR 6 ?_
       exact norm_ xq15 (hCont (d0, .slice F0 K1.length l6, cb) _ ⟨hHeld, (rF f4), blkA, blkA, blkA, y2.out, Y2.out, i2.out, i3.out, i4.out, i5.out, belA⟩)
     · skip
       refine box_step ?hg (N := 6) ?hd (cs := #[.int .i64 0, .int .i64 0, .slice none 0 0]) (t := 26) ?hr ?_; (case hd => rfl); (case hg => rfl); (case hr => exact xq4)
       intro cb hg ki hbox hb; have C7 := ak hbox; have y2 := leA (w := w) hg; have Y2 := leA (w := w) hg; have i2 := neL hg C0; have i3 := neG hg C0; have i4 := neL hg C1; have i5 := neG hg C1; replace f3 := ak (Kd.R_below (rF f3) hb); replace C0 := bB C0 hb; replace C1 := bB C1 hb; replace HB := bS hb; clear hb hbox hg; refine hK.out _ _ ⟨bc C0 0, bc C0 1, bc C0 2⟩ (fun hHeld => ?_)
       clear hK K; refine nR 6 ?_
       refine one_ (i := 7) (N := some 46) (ba 11 767) rfl rfl (one_of HT_.out (by kernel_rfl)) (by decide) (fun K hK => ?_)
       refine Kd.R_append_rows_step k36 (w0 := w) w.heap.size (by rfl) (.tmp 43) (.tmp 45) 24 36 (.agg #[(.int .i64 0), (.int .i64 0), (.int .i64 0)]) 24 rfl Try.underlying24 impl_SwapSteps.info rfl (by decide) (by omega) d0 K0 l0_2 _ _ _ (fun _ => True) (fun _ => False) rfl rfl ?aO ?aR (fun _ _ h => h) (fun _ h => h.elim) ?aF ?aB ?aS ?aL ?_
       (case aR => exact xq50)
       (case aB => exact belA)
       (case aF => exact (fun _ _ => trivial))
       (case aO => exact (rF f3))
       (case aS => exact (below_size belA))
       (case aL => exact xq28)
       intro d1 kk ho hb hg hat; rw [← E1.out] at ho; have x1 := ak (blk_grown (g := c0) (o := .cells #[.int .i64 a0_0, .int .i64 a0_1, .slice (some a5) l0_2.length c0_2] 26 (0, 0)) blkA hg (Kd.R_ne f3.out C0.out (by decide))); have x2 := ak (blk_grown (g := c1) (o := .cells #[.int .i64 0, .int .i64 0, .slice none 0 0] 26 (0, 0)) blkA hg (Kd.R_ne f3.out C1.out (by decide))); have x3 := ak (blk_grown (g := cb) (o := .cells #[.int .i64 0, .int .i64 0, .slice none 0 0] 26 (0, 0)) blkA hg (Kd.R_ne f3.out C7.out (by decide))); have x4 := ak hb; have x5 := ak ho; clear C0; clear C1; clear C7; clear HB; clear f3; have C0 := x1; have C1 := x2; have C7 := x3; have HB := x4; have f4 := x5; clear x1 x2 x3 x4 x5; clear ho hb hg hat; obtain ⟨F1, l7, L1⟩ := Kd.R_slice f4.out; (first | subst L1 | (injection L1 with C2 C3 C4; have C5 := C2.symm; have C6 := C4.symm; clear C2 C3 C4; subst C5; subst C6))
       refine hK.out _ _ ⟨bc C0 0, bc C0 1, bc C0 2⟩ (fun hHeld => ?_)
       clear hK K; refine nR 46 ?_; refine pR 8 47 (ba 11 1023) ?_
       exact norm_ xq15 (hCont (d0, .slice F1 K1.length l7, cb) _ ⟨hHeld, (rF f4), blkA, blkA, blkA, y2.out, Y2.out, i2.out, i3.out, i4.out, i5.out, belA⟩)
   · skip
     refine box_step ?hg (N := 6) ?hd (cs := #[.int .i64 0, .int .i64 0, .slice none 0 0]) (t := 26) ?hr ?_; (case hd => rfl); (case hg => rfl); (case hr => exact xq4)
     intro cb hg kh hbox hb; have C7 := ak hbox; have y2 := leA (w := w) hg; have Y2 := leA (w := w) hg; have i2 := neL hg C0; have i3 := neG hg C0; have i4 := neL hg C1; have i5 := neG hg C1; replace C0 := bB C0 hb; replace C1 := bB C1 hb; replace HB := bS hb; clear hb hbox hg; refine hK.out _ _ ⟨bc C0 0, bc C0 1, bc C0 2⟩ (fun hHeld => ?_)
     clear hK K; refine nR 6 ?_
     refine one_ (i := 4) (N := some 43) (ba 11 639) rfl rfl (one_of HT_.out (by kernel_rfl)) (by decide) (fun K hK => ?_)
     refine Kd.R_lit_step k36 _ 36 ?hg (N := 43) ?hd (xs := ([] : List (S36))) (inner := []) (ok := fun _ => True) (okp := fun _ => True) ?hr ?hp (fun _ hk => hk) trivial (Below.refl _ _) (Nat.le_refl _) (by simp) ?_; (case hd => rfl); (case hg => rfl); (case hr => exact xq4); (case hp => exact (Reps.none _ _))
     intro d0 kl D1 hb hg_ hnew_; clear hg_ hnew_; (first | rw [← E0.out] at D1 | (simp only [Int.reduceToNat] at D1; rw [← E0.out] at D1))
     have f3 := rL D1; replace C0 := bB C0 hb; replace C1 := bB C1 hb; replace C7 := bB C7 hb; replace HB := bS hb; clear hb D1; refine hK.out _ _ ⟨bc C0 0, bc C0 1, bc C0 2⟩ (fun hHeld => ?_)
     clear hK K; refine nR 43 ?_
     refine one_ (i := 7) (N := some 46) (ba 11 767) rfl rfl (one_of HT_.out (by kernel_rfl)) (by decide) (fun K hK => ?_)
     refine Kd.R_append_rows_step k36 (w0 := w) w.heap.size (by rfl) (.tmp 43) (.tmp 45) 24 36 (.agg #[(.int .i64 0), (.int .i64 0), (.int .i64 0)]) 24 rfl Try.underlying24 impl_SwapSteps.info rfl (by decide) (by omega) d0 K0 l0_2 _ _ _ (fun _ => True) (fun _ => False) rfl rfl ?aO ?aR (fun _ _ h => h) (fun _ h => h.elim) ?aF ?aB ?aS ?aL ?_
     (case aR => exact xq50)
     (case aB => exact belA)
     (case aF => exact (fun _ _ => trivial))
     (case aO => exact (rF f3))
     (case aS => exact (below_size belA))
     (case aL => exact xq28)
     intro d1 kk ho hb hg hat; rw [← E1.out] at ho; have x1 := ak (blk_grown (g := c0) (o := .cells #[.int .i64 a0_0, .int .i64 a0_1, .slice (some a5) l0_2.length c0_2] 26 (0, 0)) blkA hg (Kd.R_ne f3.out C0.out (by decide))); have x2 := ak (blk_grown (g := c1) (o := .cells #[.int .i64 0, .int .i64 0, .slice none 0 0] 26 (0, 0)) blkA hg (Kd.R_ne f3.out C1.out (by decide))); have x3 := ak (blk_grown (g := cb) (o := .cells #[.int .i64 0, .int .i64 0, .slice none 0 0] 26 (0, 0)) blkA hg (Kd.R_ne f3.out C7.out (by decide))); have x4 := ak hb; have x5 := ak ho; clear C0; clear C1; clear C7; clear HB; clear f3; have C0 := x1; have C1 := x2; have C7 := x3; have HB := x4; have f4 := x5; clear x1 x2 x3 x4 x5; clear ho hb hg hat; obtain ⟨F1, l7, L1⟩ := Kd.R_slice f4.out; (first | subst L1 | (injection L1 with C2 C3 C4; have C5 := C2.symm; have C6 := C4.symm; clear C2 C3 C4; subst C5; subst C6))
     refine hK.out _ _ ⟨bc C0 0, bc C0 1, bc C0 2⟩ (fun hHeld => ?_)
     clear hK K; refine nR 46 ?_; refine pR 8 47 (ba 11 1023) ?_
     exact norm_ xq15 (hCont (d0, .slice F1 K1.length l7, cb) _ ⟨hHeld, (rF f4), blkA, blkA, blkA, y2.out, Y2.out, i2.out, i3.out, i4.out, i5.out, belA⟩)
 rintro ⟨d0, d1, cb⟩ km ⟨hS_, z1, z2, z3, z4, z5, z6, z7, z8, z9, za, zb⟩
 have x1 : Aside0 (Kd.R k36 36 km w.heap.size (fun _ => True) d1 K1) := ⟨z1⟩; have x2 : Aside0 (km.heap[c0]? = some (.cells #[.int .i64 a0_0, .int .i64 a0_1, .slice (some a5) l0_2.length c0_2] 26 (0, 0))) := ⟨z2⟩; have x3 : Aside0 (km.heap[c1]? = some (.cells #[.int .i64 0, .int .i64 0, .slice none 0 0] 26 (0, 0))) := ⟨z3⟩; have x4 : Aside0 (km.heap[cb]? = some (.cells #[.int .i64 0, .int .i64 0, .slice none 0 0] 26 (0, 0))) := ⟨z4⟩; have x5 : Aside0 (w.heap.size ≤ cb) := ⟨z5⟩; have x6 : Aside0 (w.heap.size ≤ cb) := ⟨z6⟩; have x7 : Aside0 (c0 ≠ cb) := ⟨z7⟩; have x8 : Aside0 (cb ≠ c0) := ⟨z8⟩; have x9 : Aside0 (c1 ≠ cb) := ⟨z9⟩; have xa : Aside0 (cb ≠ c1) := ⟨za⟩; have xb : Aside0 (Below w.heap.size w km) := ⟨zb⟩; clear C0; clear C1; clear HB; clear z1 z2 z3 z4 z5 z6 z7 z8 z9 za zb; have f4 := x1; have C0 := x2; have C1 := x3; have C7 := x4; have y2 := x5; have Y2 := x6; have i2 := x7; have i3 := x8; have i4 := x9; have i5 := xa; have HB := xb; clear x1 x2 x3 x4 x5 x6 x7 x8 x9 xa xb; have hHeld : km.cell? ⟨c0, 0, none⟩ = some (.int .i64 a0_0) ∧ km.cell? ⟨c0, 1, none⟩ = some (.int .i64 a0_1) ∧ km.cell? ⟨c0, 2, none⟩ = some (.slice (some a5) l0_2.length c0_2) := hS_; obtain ⟨F2, l8, L2⟩ := Kd.R_slice f4.out; (first | subst L2 | (injection L2 with C2 C3 C4; have C5 := C2.symm; have C6 := C4.symm; clear C2 C3 C4; subst C5; subst C6))
 refine norm_ (a' := ?_) ?_ ?_
 rotate_left
 · simp only [putAll, Act.put, sa, sb, sc]
   rfl
 refine one_ (i := 10) (N := none) (ba 11 2047) rfl rfl (one_of HT_.out (by kernel_rfl)) (by decide) (fun K hK => ?_)
 have y3 : km.cell? ⟨cb, 0, none⟩ = some (.int .i64 0) := bc C7 0; have Y3 := blk_frozen C7.out 0; have v2 := i2.out; have v3 := i4.out; have V2 := i3.out; have V3 := i5.out; have y4 : km.cell? ⟨cb, 1, none⟩ = some (.int .i64 0) := bc C7 1; have Y4 := blk_frozen C7.out 1; have v4 := i2.out; have v5 := i4.out; have V4 := i3.out; have V5 := i5.out; have y5 : km.cell? ⟨cb, 2, none⟩ = some (.slice none 0 0) := bc C7 2; have Y5 := blk_frozen C7.out 2; have v6 := i2.out; have v7 := i4.out; have V6 := i3.out; have V7 := i5.out; refine skip_ (w1 := ?_) (by rfl) rfl ?_ ?_
 rotate_left
 · go_simp
   rfl
 refine hK.out _ _ ⟨((cell_far (p := ⟨cb, _, none⟩) i2.out _).trans (((cell_far (p := ⟨cb, _, none⟩) i2.out _).trans (((cell_far (p := ⟨cb, _, none⟩) i2.out _).trans (hHeld.1)))))), ((cell_far (p := ⟨cb, _, none⟩) i2.out _).trans (((cell_far (p := ⟨cb, _, none⟩) i2.out _).trans (((cell_far (p := ⟨cb, _, none⟩) i2.out _).trans (hHeld.2.1)))))), ((cell_far (p := ⟨cb, _, none⟩) i2.out _).trans (((cell_far (p := ⟨cb, _, none⟩) i2.out _).trans (((cell_far (p := ⟨cb, _, none⟩) i2.out _).trans (hHeld.2.2))))))⟩ (fun hHeld => ?_)
 clear hK K; refine done_ (done_of HT_.out (by kernel_rfl)) ?_
 obtain ⟨Z1, kn⟩ : ∃ W_ : World, W_ = (((km.setCell ⟨cb, 0, none⟩ (.int .i64 a0_0)).setCell ⟨cb, 1, none⟩ (.int .i64 a0_1)).setCell ⟨cb, 2, none⟩ (.slice F2 K1.length l8)) := ⟨_, rfl⟩; have x1 : Aside0 (Kd.R k36 36 Z1 w.heap.size (fun _ => True) (.slice F2 K1.length l8) K1) := ak (by rw [kn]; exact (Kd.R_mono (Kd.R_far (p := ⟨cb, 2, none⟩) (Kd.R_far (p := ⟨cb, 1, none⟩) (Kd.R_far (p := ⟨cb, 0, none⟩) (Kd.R_types f4.out C7.out (by decide)) (fun _ hk => hk.2) (.int .i64 a0_0)) (fun _ hk => hk.2) (.int .i64 a0_1)) (fun _ hk => hk.2) (.slice F2 K1.length l8)) (fun _ h_ => h_.1))); have x3 : Aside0 (Z1.heap[c1]? = some (.cells #[.int .i64 0, .int .i64 0, .slice none 0 0] 26 (0, 0))) := ak (by rw [kn]; exact blk_far (blk_far (blk_far C1.out i4.out _) i4.out _) i4.out _); have x4 : Aside0 (Z1.heap[cb]? = some (.cells #[.int .i64 a0_0, .int .i64 a0_1, .slice F2 K1.length l8] 26 (0, 0))) := ak (by rw [kn]; refine blk_put (cs := #[.int .i64 a0_0, .int .i64 a0_1, .slice none 0 0]) ?_ 2 _ rfl; refine blk_put (cs := #[.int .i64 a0_0, .int .i64 0, .slice none 0 0]) ?_ 1 _ rfl; refine blk_put (cs := #[.int .i64 0, .int .i64 0, .slice none 0 0]) ?_ 0 _ rfl; exact C7.out); have x5 : Aside0 (Below w.heap.size w Z1) := ak (by rw [kn]; exact below_set (below_set (below_set HB.out Y2.out) Y2.out) Y2.out); rw [← kn]; clear f4 C0 C1 C7 HB hHeld kn; have v8 : 0 ≤ (J0 : Int) := odA; have V8 : J0 < (K1.length : Int) := odA; have v9 : 0 ≤ (a1 : Int) := odA; have V9 : a1 < (K1.length : Int) := odA; obtain ⟨a7, l9, L3, cc, A2, o6, O0⟩ := Kd.R_form x1.out (by omega); injection L3 with ea_ en_ ec_
 subst ea_; clear en_ ec_ A2 O0; have p0 := ak cc; clear cc; have K4 := bc x4 2; have e1 := ak (Kd.R_drew x1.out); have e2 := ak (blk_drew x3.out); have e3 := ak (blk_drew x4.out); have e4 := ak (below_drew1 x5.out); clear x1 x3 x4 x5 K4; try go_wp2
 refine start_ (n := 22) (S := fun w' => w'.cell? ⟨cb, 2, none⟩ = some (.slice (some ⟨a7, 0, none⟩) K1.length l8)) (ds := []) _ (by kernel_rfl) rfl rfl (bc e3 2) (fun hHeld => ?_)
 generalize Z1.drew = Z2 at e1 e2 e3 e4 hHeld ⊢
 obtain ⟨ceA, hclA, hMA, hccA, hfrA⟩ := Kd.R_elem e1.out z36 (a1 : Int) v9 V9; obtain rfl := k36_openM hMA; have E4 : Z2.cell? ⟨a7, (a1 : Int).toNat * 3, none⟩ = some (.int .i64 ((rd_T36 K1 a1).f0)) := hccA 0 _ rfl; have d2 : Z2.frozen? ⟨a7, (a1 : Int).toNat * 3, none⟩ = false := hfrA 0; have E5 : Z2.cell? ⟨a7, (a1 : Int).toNat * 3 + 1, none⟩ = some (.int .i64 ((rd_T36 K1 a1).f1)) := hccA 1 _ rfl; have d3 : Z2.frozen? ⟨a7, (a1 : Int).toNat * 3 + 1, none⟩ = false := hfrA 1; have E6 : Z2.cell? ⟨a7, (a1 : Int).toNat * 3 + 2, none⟩ = some (.int .i64 ((rd_T36 K1 a1).f2)) := hccA 2 _ rfl; have d4 : Z2.frozen? ⟨a7, (a1 : Int).toNat * 3 + 2, none⟩ = false := hfrA 2; obtain ⟨ceB, hclB, hMB, hccB, hfrB⟩ := Kd.R_elem e1.out z36 (J0 : Int) v8 V8; obtain rfl := k36_openM hMB; have D2 : Z2.cell? ⟨a7, (J0 : Int).toNat * 3, none⟩ = some (.int .i64 ((rd_T36 K1 J0).f0)) := hccB 0 _ rfl; have f5 : Z2.frozen? ⟨a7, (J0 : Int).toNat * 3, none⟩ = false := hfrB 0; have D3 : Z2.cell? ⟨a7, (J0 : Int).toNat * 3 + 1, none⟩ = some (.int .i64 ((rd_T36 K1 J0).f1)) := hccB 1 _ rfl; have f6 : Z2.frozen? ⟨a7, (J0 : Int).toNat * 3 + 1, none⟩ = false := hfrB 1; have D4 : Z2.cell? ⟨a7, (J0 : Int).toNat * 3 + 2, none⟩ = some (.int .i64 ((rd_T36 K1 J0).f2)) := hccB 2 _ rfl; have f7 : Z2.frozen? ⟨a7, (J0 : Int).toNat * 3 + 2, none⟩ = false := hfrB 2; have HPA := ak (Kd.R_seg e1.out (a1 : Int) v9 V9 (seg := [.int .i64 ((rd_T36 K1 J0).f0), .int .i64 ((rd_T36 K1 J0).f1), .int .i64 ((rd_T36 K1 J0).f2)]) (j := 0) hclA hccA (show 3 ≤ 3 from by decide) (x' := (⟨(rd_T36 K1 J0).f0, (rd_T36 K1 J0).f1, (rd_T36 K1 J0).f2⟩ : S36)) (k36_mkM _ _ _ (⟨(rd_T36 K1 J0).f0, (rd_T36 K1 J0).f1, (rd_T36 K1 J0).f2⟩ : S36)) (okp := fun _ => False) (fun _ hk => hk.elim)); clear hclA hMA hccA hfrA hclB hMB hccB hfrB; have F3 := ak v8; have la := ak V8; replace v8 := eq_true v8; replace V8 := eq_true V8; replace v9 := eq_true v9; replace V9 := eq_true V9; refine pK 0 48 (ba 22 1) ?_
 refine take_ (i := 1) (N := some 49) (v := ?_) (a' := ?_) (ba 22 3) rfl rfl (by kernel_rfl) (fun _ _ _ h => h) (Or.inl ⟨by rfl, ?_⟩) hHeld ?_ ?_
 rotate_left
 · intro w' s0; go_simp
   with_reducible rfl
 rotate_left
 · simp only [Act.put, sa, sb, sc, i64_w, i32_w]
   rfl
 refine pK 2 50 (ba 22 7) ?_; refine pK 3 51 (ba 22 15) ?_
 refine take_ (i := 4) (N := some 52) (v := ?_) (a' := ?_) (ba 22 31) rfl rfl (by kernel_rfl) (fun _ _ _ h => h) (Or.inl ⟨by rfl, ?_⟩) hHeld ?_ ?_
 rotate_left
 · intro w' s0; go_simp
   with_reducible rfl
 rotate_left
 · simp only [Act.put, sa, sb, sc, i64_w, i32_w]
   rfl
 refine pK 5 53 (ba 22 63) ?_; refine pK 6 54 (ba 22 127) ?_; refine pK 7 55 (ba 22 255) ?_
 refine take_ (i := 8) (N := some 56) (v := ?_) (a' := ?_) (ba 22 511) rfl rfl (by kernel_rfl) (fun _ _ _ h => h) (Or.inl ⟨by rfl, ?_⟩) hHeld ?_ ?_
 rotate_left
 · intro w' s0; go_simp
   with_reducible rfl
 rotate_left
 · simp only [Act.put, sa, sb, sc, i64_w, i32_w]
   rfl
 refine pK 9 57 (ba 22 1023) ?_; refine pK 10 58 (ba 22 2047) ?_; refine pK 11 59 (ba 22 4095) ?_; refine pK 13 61 (ba 22 12287) ?_
 refine take_ (i := 14) (N := some 62) (v := ?_) (a' := ?_) (ba 22 28671) rfl rfl (by kernel_rfl) (fun _ _ _ h => h) (Or.inl ⟨by rfl, ?_⟩) hHeld ?_ ?_
 rotate_left
 · intro w' s0; go_simp
   with_reducible rfl
 rotate_left
 · simp only [Act.put, sa, sb, sc, i64_w, i32_w]
   rfl
 refine pK 15 63 (ba 22 61439) ?_; refine pK 16 64 (ba 22 126975) ?_
 refine two_ (i := 12) (j := 17) (Ni := some 60) (Nj := some 65) (ba 22 131071) (ba 22 258047) rfl rfl rfl rfl (by kernel_rfl) (by decide) (by decide) (fun K hK => ?_) (fun K hK => ?_)
 · refine value_ (v := .agg #[.int .i64 ((rd_T36 K1 J0).f0), .int .i64 ((rd_T36 K1 J0).f1), .int .i64 ((rd_T36 K1 J0).f2)]) (w1 := Z2) (by rfl) rfl xq4 ?_
   refine hK.out _ _ hHeld (fun hHeld => ?_)
   clear hK K; refine nR 60 ?_
   refine one_ (i := 17) (N := some 65) (ba 22 262143) rfl rfl (by kernel_rfl) (by decide) (fun K hK => ?_)
   refine value_ (v := .agg #[.int .i64 ((rd_T36 K1 a1).f0), .int .i64 ((rd_T36 K1 a1).f1), .int .i64 ((rd_T36 K1 a1).f2)]) (w1 := Z2) (by rfl) rfl xq4 ?_
   refine hK.out _ _ hHeld (fun hHeld => ?_)
   clear hK K; refine nR 65 ?_; refine pK 18 66 (ba 22 524287) ?_
   have L4 : cb ≠ a7 := fun e_ => Kd.R_ne e1.out e3.out (by decide) (by rw [e_]; simp [Value.ownBlock])
   refine one_ (i := 19) (N := none) (ba 22 1048575) rfl rfl (by kernel_rfl) (by decide) (fun K hK => ?_)
   refine skip_ (w1 := (((Z2.setCell ⟨a7, (a1 : Int).toNat * 3, none⟩ (.int .i64 ((rd_T36 K1 J0).f0))).setCell ⟨a7, (a1 : Int).toNat * 3 + 1, none⟩ (.int .i64 ((rd_T36 K1 J0).f1))).setCell ⟨a7, (a1 : Int).toNat * 3 + 2, none⟩ (.int .i64 ((rd_T36 K1 J0).f2)))) (by rfl) rfl xq4 ?_
   refine hK.out _ _ ((cell_far (p := ⟨a7, _, none⟩) L4 _).trans ((cell_far (p := ⟨a7, _, none⟩) L4 _).trans ((cell_far (p := ⟨a7, _, none⟩) L4 _).trans hHeld))) (fun hHeld => ?_)
   clear hK K; obtain ⟨Z3, ko⟩ : ∃ W_ : World, W_ = (((Z2.setCell ⟨a7, (a1 : Int).toNat * 3, none⟩ (.int .i64 ((rd_T36 K1 J0).f0))).setCell ⟨a7, (a1 : Int).toNat * 3 + 1, none⟩ (.int .i64 ((rd_T36 K1 J0).f1))).setCell ⟨a7, (a1 : Int).toNat * 3 + 2, none⟩ (.int .i64 ((rd_T36 K1 J0).f2))) := ⟨_, rfl⟩; rw [← ko] at hHeld ⊢; have hg : Z2.grownBy Z3 (some a7) := by rw [ko]; exact HPA.out.2
   have x1 : Aside0 (Kd.R k36 36 Z3 w.heap.size (fun _ => True) (.slice (some ⟨a7, 0, none⟩) K1.length l8) K2) := ak (by rw [ko, E2.out]; exact HPA.out.1); have x3 := ak (blk_grown (g := c1) e2.out hg (Kd.R_ne e1.out e2.out (by decide))); have x4 := ak (blk_grown (g := cb) e3.out hg (Kd.R_ne e1.out e3.out (by decide))); have x5 : Aside0 (Below w.heap.size w Z3) := ak (by rw [ko]; exact below_set (below_set (below_set e4.out p0.out) p0.out) p0.out); clear e1 e2 e3 e4 HPA hg ko E4 E5 E6 d2 d3 d4 D2 D3 D4 f5 f6 f7; obtain ⟨ceC, hclC, hMC, hccC, hfrC⟩ := Kd.R_elem x1.out z36 (J0 : Int) F3.out la.out; obtain rfl := k36_openM hMC; have m0 : Z3.cell? ⟨a7, (J0 : Int).toNat * 3, none⟩ = some (.int .i64 ((rd_T36 K2 J0).f0)) := hccC 0 _ rfl; have M0 : Z3.frozen? ⟨a7, (J0 : Int).toNat * 3, none⟩ = false := hfrC 0; have m1 : Z3.cell? ⟨a7, (J0 : Int).toNat * 3 + 1, none⟩ = some (.int .i64 ((rd_T36 K2 J0).f1)) := hccC 1 _ rfl; have M1 : Z3.frozen? ⟨a7, (J0 : Int).toNat * 3 + 1, none⟩ = false := hfrC 1; have m2 : Z3.cell? ⟨a7, (J0 : Int).toNat * 3 + 2, none⟩ = some (.int .i64 ((rd_T36 K2 J0).f2)) := hccC 2 _ rfl; have M2 : Z3.frozen? ⟨a7, (J0 : Int).toNat * 3 + 2, none⟩ = false := hfrC 2; have HPC := ak (Kd.R_seg x1.out (J0 : Int) F3.out la.out (seg := [.int .i64 ((rd_T36 K1 a1).f0), .int .i64 ((rd_T36 K1 a1).f1), .int .i64 ((rd_T36 K1 a1).f2)]) (j := 0) hclC hccC (show 3 ≤ 3 from by decide) (x' := (⟨(rd_T36 K1 a1).f0, (rd_T36 K1 a1).f1, (rd_T36 K1 a1).f2⟩ : S36)) (k36_mkM _ _ _ (⟨(rd_T36 K1 a1).f0, (rd_T36 K1 a1).f1, (rd_T36 K1 a1).f2⟩ : S36)) (okp := fun _ => False) (fun _ hk => hk.elim)); clear hclC hMC hccC hfrC; refine pK 20 67 (ba 22 2097151) ?_
   refine one_ (i := 21) (N := none) (ba 22 4194303) rfl rfl (by kernel_rfl) (by decide) (fun K hK => ?_)
   refine skip_ (w1 := (((Z3.setCell ⟨a7, (J0 : Int).toNat * 3, none⟩ (.int .i64 ((rd_T36 K1 a1).f0))).setCell ⟨a7, (J0 : Int).toNat * 3 + 1, none⟩ (.int .i64 ((rd_T36 K1 a1).f1))).setCell ⟨a7, (J0 : Int).toNat * 3 + 2, none⟩ (.int .i64 ((rd_T36 K1 a1).f2)))) (by rfl) rfl xq4 ?_
   refine hK.out _ _ ((cell_far (p := ⟨a7, _, none⟩) L4 _).trans ((cell_far (p := ⟨a7, _, none⟩) L4 _).trans ((cell_far (p := ⟨a7, _, none⟩) L4 _).trans hHeld))) (fun hHeld => ?_)
   clear hK K; obtain ⟨Z4, kp⟩ : ∃ W_ : World, W_ = (((Z3.setCell ⟨a7, (J0 : Int).toNat * 3, none⟩ (.int .i64 ((rd_T36 K1 a1).f0))).setCell ⟨a7, (J0 : Int).toNat * 3 + 1, none⟩ (.int .i64 ((rd_T36 K1 a1).f1))).setCell ⟨a7, (J0 : Int).toNat * 3 + 2, none⟩ (.int .i64 ((rd_T36 K1 a1).f2))) := ⟨_, rfl⟩; rw [← kp] at hHeld ⊢; have hg : Z3.grownBy Z4 (some a7) := by rw [kp]; exact HPC.out.2
   have e1 : Aside0 (Kd.R k36 36 Z4 w.heap.size (fun _ => True) (.slice (some ⟨a7, 0, none⟩) K1.length l8) K3) := ak (by rw [kp, E3.out]; exact HPC.out.1); have e2 := ak (blk_grown (g := c1) x3.out hg (Kd.R_ne x1.out x3.out (by decide))); have e3 := ak (blk_grown (g := cb) x4.out hg (Kd.R_ne x1.out x4.out (by decide))); have e4 : Aside0 (Below w.heap.size w Z4) := ak (by rw [kp]; exact below_set (below_set (below_set x5.out p0.out) p0.out) p0.out); clear x1 x3 x4 x5 HPC hg kp m0 m1 m2 M0 M1 M2; refine done_ (by kernel_rfl) ?_
   have R0 := bc e3 0; have R1 := bc e3 1; have R2 := bc e3 2; have i6 := bc e2 0; have I4 := blk_frozen e2.out 0; have i7 := bc e2 1; have I5 := blk_frozen e2.out 1; have i8 := bc e2 2; have I6 := blk_frozen e2.out 2; have S0 := i4.out; have S1 := i5.out; try go_wp2
   refine bodyPost_ret (results_ct rfl _ _ c1 26 #[.int .i64 a0_0, .int .i64 a0_1, .slice (some ⟨a7, 0, none⟩) K1.length l8] (0, 0) _ rfl xq100 Try.underlying26 rfl (by kernel_rfl)) rfl ?_
   exact ⟨_, by first | rfl | (simp [errW_none, errW_some] <;> rfl), xq101, xq102⟩
 · refine value_ (v := .agg #[.int .i64 ((rd_T36 K1 a1).f0), .int .i64 ((rd_T36 K1 a1).f1), .int .i64 ((rd_T36 K1 a1).f2)]) (w1 := Z2) (by rfl) rfl xq4 ?_
   refine hK.out _ _ hHeld (fun hHeld => ?_)
   clear hK K; refine nR 65 ?_
   refine one_ (i := 12) (N := some 60) (ba 22 262143) rfl rfl (by kernel_rfl) (by decide) (fun K hK => ?_)
   refine value_ (v := .agg #[.int .i64 ((rd_T36 K1 J0).f0), .int .i64 ((rd_T36 K1 J0).f1), .int .i64 ((rd_T36 K1 J0).f2)]) (w1 := Z2) (by rfl) rfl xq4 ?_
   refine hK.out _ _ hHeld (fun hHeld => ?_)
   clear hK K; refine nR 60 ?_; refine pK 18 66 (ba 22 524287) ?_
   have L4 : cb ≠ a7 := fun e_ => Kd.R_ne e1.out e3.out (by decide) (by rw [e_]; simp [Value.ownBlock])
   refine one_ (i := 19) (N := none) (ba 22 1048575) rfl rfl (by kernel_rfl) (by decide) (fun K hK => ?_)
   refine skip_ (w1 := (((Z2.setCell ⟨a7, (a1 : Int).toNat * 3, none⟩ (.int .i64 ((rd_T36 K1 J0).f0))).setCell ⟨a7, (a1 : Int).toNat * 3 + 1, none⟩ (.int .i64 ((rd_T36 K1 J0).f1))).setCell ⟨a7, (a1 : Int).toNat * 3 + 2, none⟩ (.int .i64 ((rd_T36 K1 J0).f2)))) (by rfl) rfl xq4 ?_
   refine hK.out _ _ ((cell_far (p := ⟨a7, _, none⟩) L4 _).trans ((cell_far (p := ⟨a7, _, none⟩) L4 _).trans ((cell_far (p := ⟨a7, _, none⟩) L4 _).trans hHeld))) (fun hHeld => ?_)
   clear hK K; obtain ⟨Z3, ko⟩ : ∃ W_ : World, W_ = (((Z2.setCell ⟨a7, (a1 : Int).toNat * 3, none⟩ (.int .i64 ((rd_T36 K1 J0).f0))).setCell ⟨a7, (a1 : Int).toNat * 3 + 1, none⟩ (.int .i64 ((rd_T36 K1 J0).f1))).setCell ⟨a7, (a1 : Int).toNat * 3 + 2, none⟩ (.int .i64 ((rd_T36 K1 J0).f2))) := ⟨_, rfl⟩; rw [← ko] at hHeld ⊢; have hg : Z2.grownBy Z3 (some a7) := by rw [ko]; exact HPA.out.2
   have x1 : Aside0 (Kd.R k36 36 Z3 w.heap.size (fun _ => True) (.slice (some ⟨a7, 0, none⟩) K1.length l8) K2) := ak (by rw [ko, E2.out]; exact HPA.out.1); have x3 := ak (blk_grown (g := c1) e2.out hg (Kd.R_ne e1.out e2.out (by decide))); have x4 := ak (blk_grown (g := cb) e3.out hg (Kd.R_ne e1.out e3.out (by decide))); have x5 : Aside0 (Below w.heap.size w Z3) := ak (by rw [ko]; exact below_set (below_set (below_set e4.out p0.out) p0.out) p0.out); clear e1 e2 e3 e4 HPA hg ko E4 E5 E6 d2 d3 d4 D2 D3 D4 f5 f6 f7; obtain ⟨ceC, hclC, hMC, hccC, hfrC⟩ := Kd.R_elem x1.out z36 (J0 : Int) F3.out la.out; obtain rfl := k36_openM hMC; have m0 : Z3.cell? ⟨a7, (J0 : Int).toNat * 3, none⟩ = some (.int .i64 ((rd_T36 K2 J0).f0)) := hccC 0 _ rfl; have M0 : Z3.frozen? ⟨a7, (J0 : Int).toNat * 3, none⟩ = false := hfrC 0; have m1 : Z3.cell? ⟨a7, (J0 : Int).toNat * 3 + 1, none⟩ = some (.int .i64 ((rd_T36 K2 J0).f1)) := hccC 1 _ rfl; have M1 : Z3.frozen? ⟨a7, (J0 : Int).toNat * 3 + 1, none⟩ = false := hfrC 1; have m2 : Z3.cell? ⟨a7, (J0 : Int).toNat * 3 + 2, none⟩ = some (.int .i64 ((rd_T36 K2 J0).f2)) := hccC 2 _ rfl; have M2 : Z3.frozen? ⟨a7, (J0 : Int).toNat * 3 + 2, none⟩ = false := hfrC 2; have HPC := ak (Kd.R_seg x1.out (J0 : Int) F3.out la.out (seg := [.int .i64 ((rd_T36 K1 a1).f0), .int .i64 ((rd_T36 K1 a1).f1), .int .i64 ((rd_T36 K1 a1).f2)]) (j := 0) hclC hccC (show 3 ≤ 3 from by decide) (x' := (⟨(rd_T36 K1 a1).f0, (rd_T36 K1 a1).f1, (rd_T36 K1 a1).f2⟩ : S36)) (k36_mkM _ _ _ (⟨(rd_T36 K1 a1).f0, (rd_T36 K1 a1).f1, (rd_T36 K1 a1).f2⟩ : S36)) (okp := fun _ => False) (fun _ hk => hk.elim)); clear hclC hMC hccC hfrC; refine pK 20 67 (ba 22 2097151) ?_
   refine one_ (i := 21) (N := none) (ba 22 4194303) rfl rfl (by kernel_rfl) (by decide) (fun K hK => ?_)
   refine skip_ (w1 := (((Z3.setCell ⟨a7, (J0 : Int).toNat * 3, none⟩ (.int .i64 ((rd_T36 K1 a1).f0))).setCell ⟨a7, (J0 : Int).toNat * 3 + 1, none⟩ (.int .i64 ((rd_T36 K1 a1).f1))).setCell ⟨a7, (J0 : Int).toNat * 3 + 2, none⟩ (.int .i64 ((rd_T36 K1 a1).f2)))) (by rfl) rfl xq4 ?_
   refine hK.out _ _ ((cell_far (p := ⟨a7, _, none⟩) L4 _).trans ((cell_far (p := ⟨a7, _, none⟩) L4 _).trans ((cell_far (p := ⟨a7, _, none⟩) L4 _).trans hHeld))) (fun hHeld => ?_)
   clear hK K; obtain ⟨Z4, kp⟩ : ∃ W_ : World, W_ = (((Z3.setCell ⟨a7, (J0 : Int).toNat * 3, none⟩ (.int .i64 ((rd_T36 K1 a1).f0))).setCell ⟨a7, (J0 : Int).toNat * 3 + 1, none⟩ (.int .i64 ((rd_T36 K1 a1).f1))).setCell ⟨a7, (J0 : Int).toNat * 3 + 2, none⟩ (.int .i64 ((rd_T36 K1 a1).f2))) := ⟨_, rfl⟩; rw [← kp] at hHeld ⊢; have hg : Z3.grownBy Z4 (some a7) := by rw [kp]; exact HPC.out.2
   have e1 : Aside0 (Kd.R k36 36 Z4 w.heap.size (fun _ => True) (.slice (some ⟨a7, 0, none⟩) K1.length l8) K3) := ak (by rw [kp, E3.out]; exact HPC.out.1); have e2 := ak (blk_grown (g := c1) x3.out hg (Kd.R_ne x1.out x3.out (by decide))); have e3 := ak (blk_grown (g := cb) x4.out hg (Kd.R_ne x1.out x4.out (by decide))); have e4 : Aside0 (Below w.heap.size w Z4) := ak (by rw [kp]; exact below_set (below_set (below_set x5.out p0.out) p0.out) p0.out); clear x1 x3 x4 x5 HPC hg kp m0 m1 m2 M0 M1 M2; refine done_ (by kernel_rfl) ?_
   have R0 := bc e3 0; have R1 := bc e3 1; have R2 := bc e3 2; have i6 := bc e2 0; have I4 := blk_frozen e2.out 0; have i7 := bc e2 1; have I5 := blk_frozen e2.out 1; have i8 := bc e2 2; have I6 := blk_frozen e2.out 2; have S0 := i4.out; have S1 := i5.out; try go_wp2
   refine bodyPost_ret (results_ct rfl _ _ c1 26 #[.int .i64 a0_0, .int .i64 a0_1, .slice (some ⟨a7, 0, none⟩) K1.length l8] (0, 0) _ rfl xq100 Try.underlying26 rfl (by kernel_rfl)) rfl ?_
   exact ⟨_, by first | rfl | (simp [errW_none, errW_some] <;> rfl), xq101, xq102⟩


end Go.Proofs.Ytbojabmpcfclhaa.PFnPlanTurned

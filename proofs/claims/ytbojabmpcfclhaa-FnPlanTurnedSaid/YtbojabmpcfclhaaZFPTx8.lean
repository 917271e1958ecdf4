-- Written by a program of this session (the print of the kit with contracts of this session's own added)
import Derived.Test.YtbojabmpcfclhaaZFPTx7
namespace Go.Proofs.Ytbojabmpcfclhaa.PFnPlanTurned
open Go.RowKit Go.Proofs.YtbojabmpcfclhaaW.PrintWords Go.Proofs.YtbojabmpcfclhaaW.PrintLast Go.Proofs.YtbojabmpcfclhaaW.PrintMore Go.Proofs.YtbojabmpcfclhaaW.PrintPack
attribute [local go_sem] max2_int min2_int max_two min_two max_three min_three max_four min_four   -- for this text's walks alone
set_option linter.unusedVariables false
set_option linter.unusedSimpArgs false

mutual
def spec_PlanOk.j0 : Nat → Bool → Int → Int → List (S36) → Option (Bool)
 | 0, _, _, _, _ => none
 | k + 1, x21, x302000, x302001, x302002 => if x21 = true then (some false) else (spec_PlanOk.l0 k 0 x302000 x302001 x302002)
def spec_PlanOk.l0 : Nat → Int → Int → Int → List (S36) → Option (Bool)
 | 0, _, _, _, _ => none
 | k + 1, x3, x302000, x302001, x302002 => if x3 < (x302002.length : Int) then (if 0 ≤ x3 then ((spec_l09Run.f x302001 ((rd_T36 x302002 x3).f0) ((rd_T36 x302002 x3).f1) ((rd_T36 x302002 x3).f2)).bind fun t304 => (if t304 = true then (if x3 > 0 then (if 0 ≤ (wrap64 (x3 - 1)) then (if (wrap64 (x3 - 1)) < (x302002.length : Int) then (if ((rd_T36 x302002 (wrap64 (x3 - 1))).f0) > ((rd_T36 x302002 x3).f0) then (some false) else (spec_PlanOk.l0 k (wrap64 (x3 + 1)) x302000 x302001 x302002)) else (none)) else (none)) else (spec_PlanOk.l0 k (wrap64 (x3 + 1)) x302000 x302001 x302002)) else (some false))) else (none)) else (spec_PlanOk.l1 k 0 x302000 x302001 x302002)
def spec_PlanOk.l1 : Nat → Int → Int → Int → List (S36) → Option (Bool)
 | 0, _, _, _, _ => none
 | k + 1, x4, x302000, x302001, x302002 => if x4 < x302001 then (spec_PlanOk.l2 k x4 (([] : List Int)) 0 x302000 x302001 x302002) else (some true)
def spec_PlanOk.l2 : Nat → Int → List Int → Int → Int → Int → List (S36) → Option (Bool)
 | 0, _, _, _, _, _, _ => none
 | k + 1, x4, x5, x6, x302000, x302001, x302002 => if 0 ≤ (IntKind.u64.wrap (x302001)) then (if x6 < (wrap64 (Int.tdiv (shl .i64 1 (IntKind.u64.wrap (x302001))) 2)) then (if x5.length < 17592186044416 then (spec_PlanOk.l2 k x4 (x5 ++ [0]) (wrap64 (x6 + 1)) x302000 x302001 x302002) else (none)) else (spec_PlanOk.l3 k x4 x5 0 x302000 x302001 x302002)) else (none)
def spec_PlanOk.l3 : Nat → Int → List Int → Int → Int → Int → List (S36) → Option (Bool)
 | 0, _, _, _, _, _, _ => none
 | k + 1, x4, x5, x7, x302000, x302001, x302002 => if x7 < (x302002.length : Int) then (if 0 ≤ x7 then (if ((rd_T36 x302002 x7).f0) = x4 then (spec_PlanOk.l4 k x4 x5 x7 ((rd_T36 x302002 x7).f1) x302000 x302001 x302002) else (spec_PlanOk.l3 k x4 x5 (wrap64 (x7 + 1)) x302000 x302001 x302002)) else (none)) else (spec_PlanOk.l5 k x4 x5 0 x302000 x302001 x302002)
def spec_PlanOk.l4 : Nat → Int → List Int → Int → Int → Int → Int → List (S36) → Option (Bool)
 | 0, _, _, _, _, _, _, _ => none
 | k + 1, x4, x5, x7, x8, x302000, x302001, x302002 => if 0 ≤ x7 then (if x7 < (x302002.length : Int) then (if x8 < ((rd_T36 x302002 x7).f2) then (if 0 ≤ x8 then (if x8 < (x5.length : Int) then (spec_PlanOk.l4 k x4 (x5.set (x8 : Int).toNat (wrap64 ((rd x5 x8) + 1))) x7 (wrap64 (x8 + 1)) x302000 x302001 x302002) else (none)) else (none)) else (spec_PlanOk.l3 k x4 x5 (wrap64 (x7 + 1)) x302000 x302001 x302002)) else (none)) else (none)
def spec_PlanOk.l5 : Nat → Int → List Int → Int → Int → Int → List (S36) → Option (Bool)
 | 0, _, _, _, _, _, _ => none
 | k + 1, x4, x5, x9, x302000, x302001, x302002 => if x9 < (x5.length : Int) then (if 0 ≤ x9 then (if (rd x5 x9) = 1 then (spec_PlanOk.l5 k x4 x5 (wrap64 (x9 + 1)) x302000 x302001 x302002) else (some false)) else (none)) else (spec_PlanOk.l1 k (wrap64 (x4 + 1)) x302000 x302001 x302002)
end
def spec_PlanOk.f (k : Nat) (a0_0 : Int) (a0_1 : Int) (l0_2 : List (S36)) : Option (Bool) := (spec_l09Log.f k a0_0 a0_1).bind fun t302 => (if t302 = true then (spec_PlanOk.j0 k (decide ((l0_2.length : Int) > 600)) a0_0 a0_1 l0_2) else (spec_PlanOk.j0 k true a0_0 a0_1 l0_2))
theorem spec_PlanOk.mono_l : ∀ k, (∀ y0 y1 y2 y3, LeO (spec_PlanOk.j0 k y0 y1 y2 y3) (spec_PlanOk.j0 (k + 1) y0 y1 y2 y3)) ∧ (∀ y0 y1 y2 y3, LeO (spec_PlanOk.l0 k y0 y1 y2 y3) (spec_PlanOk.l0 (k + 1) y0 y1 y2 y3)) ∧ (∀ y0 y1 y2 y3, LeO (spec_PlanOk.l1 k y0 y1 y2 y3) (spec_PlanOk.l1 (k + 1) y0 y1 y2 y3)) ∧ (∀ y0 y1 y2 y3 y4 y5, LeO (spec_PlanOk.l2 k y0 y1 y2 y3 y4 y5) (spec_PlanOk.l2 (k + 1) y0 y1 y2 y3 y4 y5)) ∧ (∀ y0 y1 y2 y3 y4 y5, LeO (spec_PlanOk.l3 k y0 y1 y2 y3 y4 y5) (spec_PlanOk.l3 (k + 1) y0 y1 y2 y3 y4 y5)) ∧ (∀ y0 y1 y2 y3 y4 y5 y6, LeO (spec_PlanOk.l4 k y0 y1 y2 y3 y4 y5 y6) (spec_PlanOk.l4 (k + 1) y0 y1 y2 y3 y4 y5 y6)) ∧ (∀ y0 y1 y2 y3 y4 y5, LeO (spec_PlanOk.l5 k y0 y1 y2 y3 y4 y5) (spec_PlanOk.l5 (k + 1) y0 y1 y2 y3 y4 y5))
 | 0 => ⟨fun _ _ _ _ r h => by simp [spec_PlanOk.j0] at h, fun _ _ _ _ r h => by simp [spec_PlanOk.l0] at h, fun _ _ _ _ r h => by simp [spec_PlanOk.l1] at h, fun _ _ _ _ _ _ r h => by simp [spec_PlanOk.l2] at h, fun _ _ _ _ _ _ r h => by simp [spec_PlanOk.l3] at h, fun _ _ _ _ _ _ _ r h => by simp [spec_PlanOk.l4] at h, fun _ _ _ _ _ _ r h => by simp [spec_PlanOk.l5] at h⟩
 | k + 1 => by
  obtain ⟨ih0, ih1, ih2, ih3, ih4, ih5, ih6⟩ := spec_PlanOk.mono_l k; refine ⟨?_, ?_, ?_, ?_, ?_, ?_, ?_⟩
  · intro y0 y1 y2 y3; unfold spec_PlanOk.j0; exact xq29
  · intro y0 y1 y2 y3; unfold spec_PlanOk.l0; exact xq29
  · intro y0 y1 y2 y3; unfold spec_PlanOk.l1; exact xq29
  · intro y0 y1 y2 y3 y4 y5; unfold spec_PlanOk.l2; exact xq29
  · intro y0 y1 y2 y3 y4 y5; unfold spec_PlanOk.l3; exact xq29
  · intro y0 y1 y2 y3 y4 y5 y6; unfold spec_PlanOk.l4; exact xq29
  · intro y0 y1 y2 y3 y4 y5; unfold spec_PlanOk.l5; exact xq29
theorem spec_PlanOk.mono : ∀ a0 a1 a2 k, LeO (spec_PlanOk.f k a0 a1 a2) (spec_PlanOk.f (k + 1) a0 a1 a2) := by
 intro a0 a1 a2 k; obtain ⟨b0, b1, b2, b3, b4, b5, b6⟩ := spec_PlanOk.mono_l k
 unfold spec_PlanOk.f
 exact (by repeat' (with_reducible first | exact b0 _ _ _ _ | exact b1 _ _ _ _ | exact b2 _ _ _ _ | exact b3 _ _ _ _ _ _ | exact b4 _ _ _ _ _ _ | exact b5 _ _ _ _ _ _ _ | exact b6 _ _ _ _ _ _ | exact spec_l09Log.mono _ _ _ | exact LeO.refl _ | exact LeO.none _ | refine LeO.ite ?_ ?_ | refine LeO.bind ?_ (fun _ => ?_)))
def spec_PlanOk.T6 : Bool × List (List Nat × List Nat) := (true, [([], []), ([0], [0]), ([], []), ([2], [2]), ([], []), ([3, 4], [3, 4]), ([5], [5]), ([1, 6], [1, 6]), ([7], [7]), ([8, 7], [8]), ([9], [9]), ([10, 9], [9, 10]), ([11, 9, 9], [9, 11]), ([12], [12]), ([13, 12], [12, 13]), ([12], [12]), ([15, 12], [12, 15]), ([14, 16, 12], [12, 14, 16]), ([17, 12], [12, 17]), ([18, 12], [12, 18]), ([12], [12]), ([20, 12], [12, 20]), ([12], [12]), ([21, 22, 12], [12, 21, 22]), ([23, 12], [12, 23]), ([24, 12], [12, 24]), ([19, 25, 12], [12, 19, 25]), ([12, 26, 9], [9, 12, 26]), ([9, 27], [9, 27])])
def spec_PlanOk.B6 : List Nat := [0, 1, 0, 4, 0, 28, 60, 127, 255, 511, 1023, 2047, 4095, 8191, 16383, 8191, 40959, 131071, 262143, 524287, 8191, 1056767, 8191, 7348223, 15736831, 32514047, 67108863, 134217727, 268435455]
theorem spec_PlanOk.tab6 : rtab .any (opsOf Try.f32 6) = spec_PlanOk.T6 := by kernel_rfl
theorem spec_PlanOk.bits6 : waitsOk spec_PlanOk.T6.2 spec_PlanOk.B6 = true := by kernel_rfl
set_option maxHeartbeats 8000000 in
set_option maxRecDepth 100000 in
theorem spec_PlanOk.calls (k : Nat) (a0_0 : Int) (a0_1 : Int) (A0_2 : Option Addr) (c0_2 : Nat) (l0_2 : List (S36)) (r : Bool) (w : World) (hr0_2 : Kd.C k36 w A0_2 l0_2.length l0_2) (hc0_2 : l0_2.length ≤ c0_2) (h : spec_PlanOk.f k a0_0 a0_1 l0_2 = some r) :
 Calls Try.prog 32 #[.agg #[.int .i64 a0_0, .int .i64 a0_1, .slice A0_2 l0_2.length c0_2]] w fun e w' => e = .returned (.bool r) ∧ Below w.heap.size w w' := by
 have B0 := Try.underlying26; have B2 := Try.underlying36; have g0 := ak hr0_2; have x0 := ak hc0_2; clear hr0_2 hc0_2; have HB := ak (Below.refl w.heap.size w); have H : ((spec_l09Log.f k a0_0 a0_1).bind fun z0 => (if z0 = true then (spec_PlanOk.j0 k (decide ((l0_2.length : Int) > 600)) a0_0 a0_1 l0_2) else (spec_PlanOk.j0 k true a0_0 a0_1 l0_2))) = some r := h; clear h; have x1 := ak H; clear H; go_enter Try.func32, Try.ntmps32
 go_upto_region 1 with (first | ((with_reducible refine gate_dst (N := 1) rfl ?_); (try (refine gate_guard (by rfl) ?_; dsimp only)); refine boxA 1 #[.int .i64 a0_0, .int .i64 a0_1, .slice A0_2 l0_2.length c0_2] 26 ?_; intro c0 hg w3 hbox hb; have C0 := ak hbox; have y0 := leA (w := w) hg; have Y0 := leA (w := w) hg; replace HB := bS hb; clear hb hbox hg))
 (try simp only [Act.put, sa, sb, sc])
 go_cut [21] (fun d0 wc => ∃ (kq : Nat) (W0 : Bool), d0 = .bool W0 ∧ Aside0 (spec_PlanOk.j0 kq W0 a0_0 a0_1 l0_2 = some r) ∧ Aside0 (kq ≤ k) ∧ Aside0 (wc.heap[c0]? = some (.cells #[.int .i64 a0_0, .int .i64 a0_1, (.slice A0_2 l0_2.length c0_2)] 26 (0, 0))) ∧ Aside0 (Below w.heap.size w wc))
 case first =>
  have H := x1.out; clear x1; replace H := Option.bind_eq_some_iff.mp H; obtain ⟨z0, Z0, H⟩ := H; (try dsimp only at H); have A4 := ak Z0; clear Z0
  by_cases c5 : z0 = true
  · subst c5; have H1 : (spec_PlanOk.j0 k (decide ((l0_2.length : Int) > 600)) a0_0 a0_1 l0_2) = some r := by rw [if_pos rfl] at H; exact H
    clear H; have H := H1; clear H1; have H' := ak H; clear H; obtain ⟨_, _, _, _, _, _⟩ := cel3 C0; go_wp2_with (first | ((with_reducible refine gate_callee (f := 86) rfl ?_); refine goB 14 Try.func86 #[.int .i64 a0_0, .int .i64 a0_1] rfl ?_; (with_reducible refine (spec_l09Log.calls k a0_0 a0_1 true _ A4.out).mono ?_); rintro e w' ⟨rfl, ⟨nd, rfl⟩⟩; refine ⟨_, rfl, ?_⟩))
    go_meet
    case rel => exact ⟨_, (decide ((l0_2.length : Int) > 600)), eqA, H', ⟨xq11⟩, ⟨blkA⟩, ⟨belA⟩⟩
  replace c5 := Bool.eq_false_iff.mpr c5; subst c5; have H1 : (spec_PlanOk.j0 k true a0_0 a0_1 l0_2) = some r := by rw [if_neg (show ¬ (false = true) by decide)] at H; exact H
  clear H; have H := H1; clear H1; have H' := ak H; clear H; obtain ⟨_, _, _, _, _, _⟩ := cel3 C0; go_wp2_with (first | ((with_reducible refine gate_callee (f := 86) rfl ?_); refine goB 14 Try.func86 #[.int .i64 a0_0, .int .i64 a0_1] rfl ?_; (with_reducible refine (spec_l09Log.calls k a0_0 a0_1 false _ A4.out).mono ?_); rintro e w' ⟨rfl, ⟨nd, rfl⟩⟩; refine ⟨_, rfl, ?_⟩))
  go_meet
  case rel => exact ⟨_, (true), eqA, H', ⟨xq11⟩, ⟨blkA⟩, ⟨belA⟩⟩
 case rest =>
  clear x1; obtain ⟨kq, W0, rfl, HA, t0, C0, HB⟩ := hcut
  cases kq with
  | zero => exact absurd HA.out (by simp [spec_PlanOk.j0])
  | succ g1 =>
   have H := HA.out; clear HA; simp only [spec_PlanOk.j0] at H
   by_cases c8 : W0 = true
   · subst c8; have H1 : (some false) = some r := by rw [if_pos rfl] at H; exact H
     clear H; have H := H1; clear H1; obtain rfl := Option.some.inj H; go_wp2
     go_ret
     exact ⟨xq1, belA⟩
   replace c8 := Bool.eq_false_iff.mpr c8; subst c8; have H1 : (spec_PlanOk.l0 g1 0 a0_0 a0_1 l0_2) = some r := by rw [if_neg (show ¬ (false = true) by decide)] at H; exact H
   clear H; have H := H1; clear H1; have H' := ak H; clear H; go_wp2
   go_loopg [3] g1 (fun kq v3 w' => ∃ (W1 : Int), v3 = .int .i64 W1 ∧ Aside0 (spec_PlanOk.l0 kq W1 a0_0 a0_1 l0_2 = some r) ∧ Aside0 (kq ≤ g1) ∧ Aside0 (w'.heap[c0]? = some (.cells #[.int .i64 a0_0, .int .i64 a0_1, (.slice A0_2 l0_2.length c0_2)] 26 (0, 0))) ∧ Aside0 (Below w.heap.size w w'))
   case atStart => exact ⟨(0), eqA, H', ⟨Nat.le_refl _⟩, ⟨blkA⟩, ⟨belA⟩⟩
   case round =>
    clear H'; obtain ⟨W1, rfl, HA, n0, C0, HB⟩ := hrel
    cases gk with
    | zero => exact absurd HA.out (by simp [spec_PlanOk.l0])
    | succ k2 =>
     have H := HA.out; clear HA; simp only [spec_PlanOk.l0] at H
     by_cases c9 : W1 < (l0_2.length : Int); rotate_left
     · rw [if_neg c9] at H; have N0 := decide_eq_false c9; clear c9; have H' := ak H; clear H; obtain ⟨_, _, _, _, _, _⟩ := cel3 C0; go_wp2
       go_loopg [4] k2 (fun kq v4 w' => ∃ (W2 : Int), v4 = .int .i64 W2 ∧ Aside0 (spec_PlanOk.l1 kq W2 a0_0 a0_1 l0_2 = some r) ∧ Aside0 (kq ≤ k2) ∧ Aside0 (w'.heap[c0]? = some (.cells #[.int .i64 a0_0, .int .i64 a0_1, (.slice A0_2 l0_2.length c0_2)] 26 (0, 0))) ∧ Aside0 (Below w.heap.size w w'))
       case atStart => exact ⟨(0), eqA, H', ⟨Nat.le_refl _⟩, ⟨blkA⟩, ⟨belA⟩⟩
       case round =>
        clear H'; obtain ⟨W2, rfl, HA, n1, C0, HB⟩ := hrel
        cases gk with
        | zero => exact absurd HA.out (by simp [spec_PlanOk.l1])
        | succ k3 =>
         have H := HA.out; clear HA; simp only [spec_PlanOk.l1] at H
         by_cases N1 : W2 < a0_1; rotate_left
         · rw [if_neg N1] at H; have N2 := decide_eq_false N1; clear N1; obtain rfl := Option.some.inj H; obtain ⟨_, _, _, _, _, _⟩ := cel3 C0; go_wp2
           go_ret
           exact ⟨xq1, belA⟩
         rw [if_pos N1] at H; have N2 := decide_eq_true N1; clear N1; obtain ⟨K0, hyq⟩ : ∃ y_ : List Int, y_ = (([] : List Int)) := ⟨_, rfl⟩; replace H : (spec_PlanOk.l2 k3 W2 K0 0 a0_0 a0_1 l0_2) = some r := by first | (rw [hyq]; with_reducible exact H) | (have e0 := (Option.bind_some _ _).symm.trans H; rw [hyq]; with_reducible exact e0) | (have e0 := (Option.bind_some _ _).symm.trans H; with_reducible exact e0) | with_reducible exact H | (rw [hyq]; exact H) | exact H
         have E0 := ak hyq; clear hyq; have H' := ak H; clear H; obtain ⟨_, _, _, _, _, _⟩ := cel3 C0; go_wp2_with (first | ((with_reducible refine gate_dst (N := 64) rfl ?_); (try (refine gate_guard (by rfl) ?_; dsimp only)); refine Kd.R_lit (Kd.int .i64) _ 3 ?hg (N := 64) ?hd (xs := ([] : List Int)) (inner := []) (ok := fun _ => True) (okp := fun _ => True) ?hr ?hp (fun _ hk => hk) trivial (Below.refl _ _) (Nat.le_refl _) (by simp) ?_; (case hd => rfl); (case hg => rfl); (case hr => exact xq4); (case hp => exact (Reps.none _ _)); intro d1 k0 D0 hb hg_ hnew_; clear hg_ hnew_; (first | rw [← E0.out] at D0 | (simp only [Int.reduceToNat] at D0; rw [← E0.out] at D0)); have f3 := rL D0; replace C0 := bB C0 hb; replace HB := bS hb; clear hb D0))
         go_loopg [5, 6] k3 (fun kq v5 v6 w' => ∃ (W3 : List Int) (W4 : Int), v6 = .int .i64 W4 ∧ Aside0 (spec_PlanOk.l2 kq W2 W3 W4 a0_0 a0_1 l0_2 = some r) ∧ Aside0 (kq ≤ k3) ∧ Aside0 (Kd.R (Kd.int .i64) 3 w' w.heap.size (fun _ => True) v5 W3) ∧ Aside0 (w'.heap[c0]? = some (.cells #[.int .i64 a0_0, .int .i64 a0_1, (.slice A0_2 l0_2.length c0_2)] 26 (0, 0))) ∧ Aside0 (Below w.heap.size w w'))
         case atStart => exact ⟨(K0), (0), eqA, H', ⟨Nat.le_refl _⟩, ⟨rA f3⟩, ⟨blkA⟩, ⟨belA⟩⟩
         case round =>
          clear H'; obtain ⟨W3, W4, rfl, HA, n2, f4, C0, HB⟩ := hrel
          cases gk with
          | zero => exact absurd HA.out (by simp [spec_PlanOk.l2])
          | succ k4 =>
           have H := HA.out; clear HA; simp only [spec_PlanOk.l2] at H; obtain ⟨J0, G0⟩ : ∃ j_ : Int, (IntKind.u64.wrap (a0_1)) = j_ := ⟨_, rfl⟩; replace H : (if 0 ≤ (J0) then (if W4 < (wrap64 (Int.tdiv (shl .i64 1 (J0)) 2)) then (if W3.length < 17592186044416 then (spec_PlanOk.l2 k4 W2 (W3 ++ [0]) (wrap64 (W4 + 1)) a0_0 a0_1 l0_2) else (none)) else (spec_PlanOk.l3 k4 W2 W3 0 a0_0 a0_1 l0_2)) else (none)) = some r := by first | (rw [G0] at H; exact H) | (simp only [G0] at H ⊢; exact H)
           by_cases N3 : 0 ≤ (J0); rotate_left
           · rw [if_neg N3] at H; exact absurd H (by simp)
           rw [if_pos N3] at H; have N4 := eq_true N3; have N5 : decide (0 ≤ (J0)) = true := decide_eq_true N3; clear N3; obtain ⟨J1, G1⟩ : ∃ j_ : Int, (shl .i64 1 (J0)) = j_ := ⟨_, rfl⟩; replace H : (if W4 < (wrap64 (Int.tdiv (J1) 2)) then (if W3.length < 17592186044416 then (spec_PlanOk.l2 k4 W2 (W3 ++ [0]) (wrap64 (W4 + 1)) a0_0 a0_1 l0_2) else (none)) else (spec_PlanOk.l3 k4 W2 W3 0 a0_0 a0_1 l0_2)) = some r := by first | (rw [G1] at H; exact H) | (simp only [G1] at H ⊢; exact H)
           have G2 : (IntKind.i64.wrap (1 * 2 ^ min (J0).toNat 64)) = J1 := G1; have hji37z : (J0) ≤ 64 → (IntKind.i64.wrap (1 * 2 ^ (J0).toNat)) = J1 := shl_small G1; have hji37u : (IntKind.i64.wrap (2 ^ min (J0).toNat 64)) = J1 := by have h_ := G2; rw [Int.one_mul] at h_; exact h_
           have hji37v : (J0) ≤ 64 → (IntKind.i64.wrap (2 ^ (J0).toNat)) = J1 := fun hle_ => by have h_ := hji37z hle_; rw [Int.one_mul] at h_; exact h_
           have hji37y : (wrap64 (1 * 2 ^ min (J0).toNat 64)) = J1 := (i64_w _).symm.trans G2; have hji37x : (J0) ≤ 64 → (wrap64 (1 * 2 ^ (J0).toNat)) = J1 := fun h_ => (i64_w _).symm.trans (hji37z h_)
           by_cases N6 : W4 < (wrap64 (Int.tdiv (J1) 2))
           · rw [if_pos N6] at H; have N7 := decide_eq_true N6; have N8 : decide (W4 < (IntKind.i64.wrap (Int.tdiv (J1) 2))) = true := by simp only [i64_w]; exact N7
             clear N6
             by_cases N9 : W3.length < 17592186044416; rotate_left
             · rw [if_neg N9] at H; exact absurd H (by simp)
             rw [if_pos N9] at H; have c1 := ak N9; clear N9; obtain ⟨K1, hyq⟩ : ∃ y_ : List Int, y_ = (W3 ++ [0]) := ⟨_, rfl⟩; replace H : (spec_PlanOk.l2 k4 W2 K1 (wrap64 (W4 + 1)) a0_0 a0_1 l0_2) = some r := by first | (rw [hyq]; with_reducible exact H) | (have e0 := (Option.bind_some _ _).symm.trans H; rw [hyq]; with_reducible exact e0) | (have e0 := (Option.bind_some _ _).symm.trans H; with_reducible exact e0) | with_reducible exact H | (rw [hyq]; exact H) | exact H
             have E1 := ak hyq; clear hyq; have H' := ak H; clear H; obtain ⟨_, _, _, _, _, _⟩ := cel3 C0; go_wp2_with (first | ((with_reducible refine gate_builtin (b := .append) (xs := #[.tmp 74, .tmp 75]) rfl ?_); (try (refine gate_guard (by rfl) ?_; dsimp only)); at_builtin; refine Kd.R_append (Kd.int .i64) (w0 := w) w.heap.size rfl (.tmp 74) (.tmp 75) 27 3 (.int .i64 0) 8 rfl Try.underlying27 info3 rfl (by decide) (by omega) u5 W3 0 [.int .i64 0] (fun _ => True) (fun _ => False) rfl rfl ?aP (fun _ hk => hk.elim) ?aF ?aO ?aB ?aS ?aL ?_; (case aP => exact rfl); (case aB => exact belA); (case aF => exact (fun _ _ => trivial)); (case aO => exact (rF f4)); (case aS => exact (below_size belA)); (case aL => exact xq36); intro d2 k1 ho hb hg hat; rw [← E1.out] at ho; have f5 := ak ho; replace C0 := ak (blk_grown (g := c0) (o := .cells #[.int .i64 a0_0, .int .i64 a0_1, .slice A0_2 l0_2.length c0_2] 26 (0, 0)) blkA hg (Kd.R_ne f4.out C0.out (by decide))); replace HB := ak hb; clear f4; clear ho hb hg hat))
             go_roundg k4
             case measure => have := t0.out; have := n0.out; have := n1.out; have := n2.out; omega
             case rel => exact ⟨(K1), (wrap64 (W4 + 1)), eqA, H', ⟨by have := t0.out; have := n0.out; have := n1.out; have := n2.out; omega⟩, ⟨rA f5⟩, ⟨blkA⟩, ⟨belA⟩⟩
           rw [if_neg N6] at H; have N7 := decide_eq_false N6; have N8 : decide (W4 < (IntKind.i64.wrap (Int.tdiv (J1) 2))) = false := by simp only [i64_w]; exact N7
           clear N6; have H' := ak H; clear H; obtain ⟨_, _, _, _, _, _⟩ := cel3 C0; go_wp2
           go_loopg [7] k4 (fun kq v7 w' => ∃ (W5 : List Int) (W6 : Int), v7 = .int .i64 W6 ∧ Aside0 (spec_PlanOk.l3 kq W2 W5 W6 a0_0 a0_1 l0_2 = some r) ∧ Aside0 (kq ≤ k4) ∧ Aside0 (Kd.R (Kd.int .i64) 3 w' w.heap.size (fun _ => True) u5 W5) ∧ Aside0 (w'.heap[c0]? = some (.cells #[.int .i64 a0_0, .int .i64 a0_1, (.slice A0_2 l0_2.length c0_2)] 26 (0, 0))) ∧ Aside0 (Below w.heap.size w w'))
           case atStart => exact ⟨(W3), (0), eqA, H', ⟨Nat.le_refl _⟩, ⟨rA f4⟩, ⟨blkA⟩, ⟨belA⟩⟩
           case round =>
            clear H'; obtain ⟨W5, W6, rfl, HA, n3, f4, C0, HB⟩ := hrel
            cases gk with
            | zero => exact absurd HA.out (by simp [spec_PlanOk.l3])
            | succ k5 =>
             have H := HA.out; clear HA; simp only [spec_PlanOk.l3] at H
             by_cases Na : W6 < (l0_2.length : Int); rotate_left
             · rw [if_neg Na] at H; have Nb := decide_eq_false Na; clear Na; have H' := ak H; clear H; obtain ⟨_, _, _, _, _, _⟩ := cel3 C0; go_wp2
               go_loopg [9] k5 (fun kq v9 w' => ∃ (W7 : Int), v9 = .int .i64 W7 ∧ Aside0 (spec_PlanOk.l5 kq W2 W5 W7 a0_0 a0_1 l0_2 = some r) ∧ Aside0 (kq ≤ k5) ∧ Aside0 (Kd.R (Kd.int .i64) 3 w' w.heap.size (fun _ => True) u5 W5) ∧ Aside0 (w'.heap[c0]? = some (.cells #[.int .i64 a0_0, .int .i64 a0_1, (.slice A0_2 l0_2.length c0_2)] 26 (0, 0))) ∧ Aside0 (Below w.heap.size w w'))
               case atStart => exact ⟨(0), eqA, H', ⟨Nat.le_refl _⟩, ⟨rA f4⟩, ⟨blkA⟩, ⟨belA⟩⟩
               case round =>
                clear H'; obtain ⟨W7, rfl, HA, n4, f4, C0, HB⟩ := hrel
                cases gk with
                | zero => exact absurd HA.out (by simp [spec_PlanOk.l5])
                | succ k6 =>
                 have H := HA.out; clear HA; simp only [spec_PlanOk.l5] at H
                 by_cases Nc : W7 < (W5.length : Int); rotate_left
                 · rw [if_neg Nc] at H; have Nd := decide_eq_false Nc; clear Nc; have H' := ak H; clear H; obtain ⟨F0, l6, L0⟩ := Kd.R_slice f4.out; subst L0; go_wp2
                   go_roundg k6
                   case measure => have := t0.out; have := n0.out; have := n1.out; have := n2.out; have := n3.out; have := n4.out; omega
                   case rel => exact ⟨(wrap64 (W2 + 1)), eqA, H', ⟨xq61⟩, ⟨blkA⟩, ⟨belA⟩⟩
                 rw [if_pos Nc] at H; have Nd := decide_eq_true Nc; clear Nc
                 by_cases Ne : 0 ≤ W7; rotate_left
                 · rw [if_neg Ne] at H; exact absurd H (by simp)
                 rw [if_pos Ne] at H; have Nf := decide_eq_true Ne; clear Ne
                 by_cases Ng : (rd W5 W7) = 1; rotate_left
                 · rw [if_neg Ng] at H; have Nh : ((rd W5 W7) == 1) = false := beq_eq_false_iff_ne.mpr Ng; have Ni : ((rd W5 W7) != 1) = true := bne_iff_ne.mpr Ng; obtain rfl := Option.some.inj H; obtain ⟨F1, l7, L1⟩ := Kd.R_slice f4.out; subst L1; have v0 : 0 ≤ (W7 : Int) := odA; have V0 : W7 < (W5.length : Int) := odA; obtain ⟨a5, A0, o0⟩ := Kd.at_int (Kd.R_reads' f4.out).2.2 W7 v0 V0
                   cases A0
                   replace v0 := eq_true v0; replace V0 := eq_true V0; go_wp2
                   go_ret
                   exact ⟨xq41, belA⟩
                 rw [if_pos Ng] at H; have Nh : ((rd W5 W7) == 1) = true := beq_iff_eq.mpr Ng; have Ni : ((rd W5 W7) != 1) = false := bne_eq_false_iff_eq.mpr Ng; clear Ng; have H' := ak H; clear H; obtain ⟨F2, l8, L2⟩ := Kd.R_slice f4.out; subst L2; have v0 : 0 ≤ (W7 : Int) := odA; have V0 : W7 < (W5.length : Int) := odA; obtain ⟨a5, A0, o0⟩ := Kd.at_int (Kd.R_reads' f4.out).2.2 W7 v0 V0
                 cases A0
                 replace v0 := eq_true v0; replace V0 := eq_true V0; go_wp2
                 go_roundg k6
                 case measure => have := t0.out; have := n0.out; have := n1.out; have := n2.out; have := n3.out; have := n4.out; omega
                 case rel => exact ⟨(wrap64 (W7 + 1)), eqA, H', ⟨xq61⟩, ⟨rA f4⟩, ⟨blkA⟩, ⟨belA⟩⟩
             rw [if_pos Na] at H; have Nb := decide_eq_true Na; clear Na
             by_cases Nj : 0 ≤ W6; rotate_left
             · rw [if_neg Nj] at H; exact absurd H (by simp)
             rw [if_pos Nj] at H; have Nk := decide_eq_true Nj; clear Nj
             by_cases Nl : ((rd_T36 l0_2 W6).f0) = W2; rotate_left
             · rw [if_neg Nl] at H; have Nm : (((rd_T36 l0_2 W6).f0) == W2) = false := beq_eq_false_iff_ne.mpr Nl; have Nn : (((rd_T36 l0_2 W6).f0) != W2) = true := bne_iff_ne.mpr Nl; have H' := ak H; clear H; obtain ⟨_, _, _, _, _, _⟩ := cel3 C0; have v1 : 0 ≤ (W6 : Int) := odA; have V1 : W6 < (l0_2.length : Int) := odA; obtain ⟨a6, A1, o1, o2, o3⟩ := at_T36 g0.out W6 v1 V1
               cases A1
               try replace o1 := cB HB o1
               try replace o2 := cB HB o2
               try replace o3 := cB HB o3
               replace v1 := eq_true v1; replace V1 := eq_true V1; go_wp2
               go_roundg k5
               case measure => have := t0.out; have := n0.out; have := n1.out; have := n2.out; have := n3.out; omega
               case rel => exact ⟨(W5), (wrap64 (W6 + 1)), eqA, H', ⟨by have := t0.out; have := n0.out; have := n1.out; have := n2.out; have := n3.out; omega⟩, ⟨rA f4⟩, ⟨blkA⟩, ⟨belA⟩⟩
             rw [if_pos Nl] at H; have Nm : (((rd_T36 l0_2 W6).f0) == W2) = true := beq_iff_eq.mpr Nl; have Nn : (((rd_T36 l0_2 W6).f0) != W2) = false := bne_eq_false_iff_eq.mpr Nl; clear Nl; have H' := ak H; clear H; obtain ⟨_, _, _, _, _, _⟩ := cel3 C0; have v1 : 0 ≤ (W6 : Int) := odA; have V1 : W6 < (l0_2.length : Int) := odA; obtain ⟨a6, A1, o1, o2, o3⟩ := at_T36 g0.out W6 v1 V1
             cases A1
             try replace o1 := cB HB o1
             try replace o2 := cB HB o2
             try replace o3 := cB HB o3
             replace v1 := eq_true v1; replace V1 := eq_true V1; have v2 : 0 ≤ (W6 : Int) := odA; have V2 : W6 < (l0_2.length : Int) := odA; obtain ⟨a7, A2, o4, o5, o6⟩ := at_T36 g0.out W6 v2 V2; obtain rfl : a6 = a7 := (by injection A2); try replace o4 := cB HB o4
             try replace o5 := cB HB o5
             try replace o6 := cB HB o6
             replace v2 := eq_true v2; replace V2 := eq_true V2; go_wp2
             go_loopg [8] k5 (fun kq v8 w' => ∃ (W8 : List Int) (W9 : Int), v8 = .int .i64 W9 ∧ Aside0 (spec_PlanOk.l4 kq W2 W8 W6 W9 a0_0 a0_1 l0_2 = some r) ∧ Aside0 (kq ≤ k5) ∧ Aside0 (Kd.R (Kd.int .i64) 3 w' w.heap.size (fun _ => True) u5 W8) ∧ Aside0 (w'.heap[c0]? = some (.cells #[.int .i64 a0_0, .int .i64 a0_1, (.slice (some a6) l0_2.length c0_2)] 26 (0, 0))) ∧ Aside0 (Below w.heap.size w w'))
             case atStart => exact ⟨(W5), ((rd_T36 l0_2 W6).f1), eqA, H', ⟨Nat.le_refl _⟩, ⟨rA f4⟩, ⟨blkA⟩, ⟨belA⟩⟩
             case round =>
              clear H'; obtain ⟨W8, W9, rfl, HA, n4, f4, C0, HB⟩ := hrel
              cases gk with
              | zero => exact absurd HA.out (by simp [spec_PlanOk.l4])
              | succ k6 =>
               have H := HA.out; clear HA; simp only [spec_PlanOk.l4] at H
               by_cases No : 0 ≤ W6; rotate_left
               · rw [if_neg No] at H; exact absurd H (by simp)
               rw [if_pos No] at H; have Np := decide_eq_true No; clear No
               by_cases Nq : W6 < (l0_2.length : Int); rotate_left
               · rw [if_neg Nq] at H; exact absurd H (by simp)
               rw [if_pos Nq] at H; have Nr := decide_eq_true Nq; clear Nq
               by_cases Ns : W9 < ((rd_T36 l0_2 W6).f2); rotate_left
               · rw [if_neg Ns] at H; have Nt := decide_eq_false Ns; clear Ns; have H' := ak H; clear H; obtain ⟨_, _, _, _, _, _⟩ := cel3 C0; have va : 0 ≤ (W6 : Int) := odA; have V3 : W6 < (l0_2.length : Int) := odA; obtain ⟨a8, A3, o7, o8, o9⟩ := at_T36 g0.out W6 va V3; obtain rfl : a6 = a8 := (by injection A3); try replace o7 := cB HB o7
                 try replace o8 := cB HB o8
                 try replace o9 := cB HB o9
                 replace va := eq_true va; replace V3 := eq_true V3; go_wp2
                 go_roundg k6
                 case measure => have := t0.out; have := n0.out; have := n1.out; have := n2.out; have := n3.out; have := n4.out; omega
                 case rel => exact ⟨(W8), (wrap64 (W6 + 1)), eqA, H', ⟨xq61⟩, ⟨rA f4⟩, ⟨blkA⟩, ⟨belA⟩⟩
               rw [if_pos Ns] at H; have Nt := decide_eq_true Ns; clear Ns
               by_cases Nu : 0 ≤ W9; rotate_left
               · rw [if_neg Nu] at H; exact absurd H (by simp)
               rw [if_pos Nu] at H; have Nv := decide_eq_true Nu; clear Nu
               by_cases Nw : W9 < (W8.length : Int); rotate_left
               · rw [if_neg Nw] at H; exact absurd H (by simp)
               rw [if_pos Nw] at H; have Nx := decide_eq_true Nw; clear Nw; obtain ⟨K2, hyq⟩ : ∃ y_ : List Int, y_ = (W8.set (W9 : Int).toNat (wrap64 ((rd W8 W9) + 1))) := ⟨_, rfl⟩; replace H : (spec_PlanOk.l4 k6 W2 K2 W6 (wrap64 (W9 + 1)) a0_0 a0_1 l0_2) = some r := by first | (rw [hyq]; with_reducible exact H) | (have e0 := (Option.bind_some _ _).symm.trans H; rw [hyq]; with_reducible exact e0) | (have e0 := (Option.bind_some _ _).symm.trans H; with_reducible exact e0) | with_reducible exact H | (rw [hyq]; exact H) | exact H
               have E2 := ak hyq; clear hyq; have H' := ak H; clear H; obtain ⟨_, _, _, _, _, _⟩ := cel3 C0; have va : 0 ≤ (W6 : Int) := odA; have V3 : W6 < (l0_2.length : Int) := odA; obtain ⟨a8, A3, o7, o8, o9⟩ := at_T36 g0.out W6 va V3; obtain rfl : a6 = a8 := (by injection A3); try replace o7 := cB HB o7
               try replace o8 := cB HB o8
               try replace o9 := cB HB o9
               replace va := eq_true va; replace V3 := eq_true V3; obtain ⟨F3, l9, L3⟩ := Kd.R_slice f4.out; subst L3; have vb : 0 ≤ (W9 : Int) := odA; have V4 : W9 < (W8.length : Int) := odA; obtain ⟨a9, A5, oa⟩ := Kd.at_int (Kd.R_reads' f4.out).2.2 W9 vb V4
               cases A5
               replace vb := eq_true vb; replace V4 := eq_true V4; have vc : 0 ≤ (W9 : Int) := odA; have V5 : (W9 : Int) < ((W8.length : Int) : Int) := odA; obtain ⟨aa, la, L4, ca, A6, ob, O0⟩ := Kd.R_form f4.out (by omega); (first | cases L4 | (injection L4 with ea_ en_ ec_; (first | subst ea_ | (injection ea_ with ea_; subst ea_)); subst ec_; clear en_))
               have p0 := ak ca; have P0 := ak O0; clear ca A6 O0; (first | simp only [add_plain] at oa | skip)
               obtain ⟨oc, S0⟩ := Kd.R_celln 0 f4.out (W9 : Int) vc V5; replace vc := eq_true vc; replace V5 := eq_true V5; have U0 := Kd.R_putg f4.out (W9 : Int) (wrap64 ((rd W8 W9) + 1)); go_wp2_with (first | ((with_reducible refine gate_store (t := 3) (p := 115) rfl ?_); refine store_event (t := 3) (p := 115) (v := ?vo_w56) (w1 := (wr.setCell ⟨aa, (W9 : Int).toNat, none⟩ (.int .i64 (wrap64 ((rd W8 W9) + 1))))) ?hg ?ho ?hn ?hr ?_; (case ho => rfl); (case hg => rfl); (case hn => rfl); (case hr => exact xq4); intro k7 hw; have hg : wr.grownBy k7 (some aa) := (by rw [hw]; exact U0.2); have hp_ : Kd.R (Kd.int .i64) 3 k7 w.heap.size (fun _ => True) (.slice (some ⟨aa, 0, none⟩) W8.length l9) K2 := (by rw [hw, E2.out]; exact U0.1); clear U0; replace C0 := ak (blk_grown (g := c0) (o := .cells #[.int .i64 a0_0, .int .i64 a0_1, .slice (some a6) l0_2.length c0_2] 26 (0, 0)) blkA hg (Kd.R_ne f4.out C0.out (by decide))); replace f4 := ak hp_; replace HB := ak ((by rw [hw]; exact below_set (HB.out) p0.out : Below w.heap.size w k7)); clear hg hw hp_))
               go_roundg k6
               case measure => have := t0.out; have := n0.out; have := n1.out; have := n2.out; have := n3.out; have := n4.out; omega
               case rel => exact ⟨(K2), (wrap64 (W9 + 1)), eqA, H', ⟨xq61⟩, ⟨rA f4⟩, ⟨blkA⟩, ⟨belA⟩⟩
     rw [if_pos c9] at H; have N0 := decide_eq_true c9; clear c9
     by_cases c10 : 0 ≤ W1; rotate_left
     · rw [if_neg c10] at H; exact absurd H (by simp)
     rw [if_pos c10] at H; have Ny := decide_eq_true c10; clear c10; replace H := Option.bind_eq_some_iff.mp H; obtain ⟨z1, Z1, H⟩ := H; (try dsimp only at H); have Z2 := ak Z1; clear Z1
     by_cases Nz : z1 = true; rotate_left
     · replace Nz := Bool.eq_false_iff.mpr Nz; subst Nz; have H1 : (some false) = some r := by rw [if_neg (show ¬ (false = true) by decide)] at H; exact H
       clear H; have H := H1; clear H1; obtain rfl := Option.some.inj H; obtain ⟨_, _, _, _, _, _⟩ := cel3 C0; try go_wp2
       replace C0 := ak (blk_drew C0.out); replace HB := ak (below_drew1 HB.out); have vd : 0 ≤ (W1 : Int) := odA; have V6 : W1 < (l0_2.length : Int) := odA; obtain ⟨ab, A7, od, oe, og⟩ := at_T36 g0.out W1 vd V6; have h0 := og; have h1 := oe; have h2 := od
       cases A7
       try replace od := cB HB od
       try replace oe := cB HB oe
       try replace og := cB HB og
       replace vd := eq_true vd; replace V6 := eq_true V6; refine start_ (n := 29) (S := fun w' => w'.cell? ⟨c0, 0, none⟩ = some (.int .i64 a0_0) ∧ w'.cell? ⟨c0, 1, none⟩ = some (.int .i64 a0_1) ∧ w'.cell? ⟨c0, 2, none⟩ = some (.slice (some ab) l0_2.length c0_2) ∧ w'.cell? (ab.add ((W1).toNat * 3)) = some (.int .i64 ((rd_T36 l0_2 W1).f0)) ∧ w'.cell? ⟨(ab.add ((W1).toNat * 3)).block, (ab.add ((W1).toNat * 3)).off + 1, none⟩ = some (.int .i64 ((rd_T36 l0_2 W1).f1)) ∧ w'.cell? ⟨(ab.add ((W1).toNat * 3)).block, (ab.add ((W1).toNat * 3)).off + 2, none⟩ = some (.int .i64 ((rd_T36 l0_2 W1).f2))) (ds := []) _ (by kernel_rfl) rfl rfl ⟨bc C0 0, bc C0 1, bc C0 2, (cB HB h2), (cB HB h1), (cB HB h0)⟩ (fun hHeld => ?_); refine with_tabW spec_PlanOk.tab6 spec_PlanOk.bits6 (fun HT_ HW_ => ?_)
       generalize wr.drew = k8 at C0 HB od oe og hHeld ⊢
       refine pR 0 29 (ba 29 1) ?_; refine pR 2 31 (ba 29 5) ?_; refine pR 4 33 (ba 29 21) ?_; refine tR6 1 30 (ba 29 23) ?_; refine tR6 3 32 (ba 29 31) ?_; refine pR 5 34 (ba 29 63) ?_; refine tR6 6 35 (ba 29 127) ?_
       refine one_ (i := 7) (N := some 36) (ba 29 255) rfl rfl (one_of HT_.out (by kernel_rfl)) (by decide) (fun K hK => ?_)
       refine goes_ Try.func87 (by kernel_rfl) rfl #[.int .i64 a0_1, .agg #[.int .i64 ((rd_T36 l0_2 W1).f0), .int .i64 ((rd_T36 l0_2 W1).f1), .int .i64 ((rd_T36 l0_2 W1).f2)]] (by rfl) rfl rfl xq12 ?_
       with_reducible refine (spec_l09Run.calls a0_1 ((rd_T36 l0_2 W1).f0) ((rd_T36 l0_2 W1).f1) ((rd_T36 l0_2 W1).f2) false _ Z2.out).mono ?_
       rintro e k9 ⟨rfl, hb⟩
       refine ⟨_, rfl, ?_⟩
       replace C0 := bB C0 hb; replace HB := bS hb; (try clear hb); refine hK.out _ _ ⟨bc C0 0, bc C0 1, bc C0 2, (cB HB h2), (cB HB h1), (cB HB h0)⟩ (fun hHeld => ?_)
       clear hK K; refine nR 36 ?_; refine pR 8 37 (ba 29 511) ?_; refine pR 9 38 (ba 29 1023) ?_; refine pU 10 39 (ba 29 2047) ?_; refine pU 11 40 (ba 29 4095) ?_; refine pU 12 41 (ba 29 8191) ?_; refine pU 13 42 (ba 29 16383) ?_; refine pU 14 43 (ba 29 32767) ?_; refine pU 15 44 (ba 29 65535) ?_; refine pU 16 45 (ba 29 131071) ?_; refine pU 17 46 (ba 29 262143) ?_; refine pU 18 47 (ba 29 524287) ?_; refine pU 19 48 (ba 29 1048575) ?_; refine pU 20 49 (ba 29 2097151) ?_; refine pU 21 50 (ba 29 4194303) ?_; refine pU 22 51 (ba 29 8388607) ?_; refine pU 23 52 (ba 29 16777215) ?_; refine pU 24 53 (ba 29 33554431) ?_; refine pU 25 54 (ba 29 67108863) ?_; refine pU 26 55 (ba 29 134217727) ?_; refine pU 27 56 (ba 29 268435455) ?_; refine pR 28 57 (ba 29 536870911) ?_
       refine done_ (done_of HT_.out (by kernel_rfl)) ?_
       try go_wp2
       go_ret
       exact ⟨xq1, belA⟩
     subst Nz; have H1 : (if W1 > 0 then (if 0 ≤ (wrap64 (W1 - 1)) then (if (wrap64 (W1 - 1)) < (l0_2.length : Int) then (if ((rd_T36 l0_2 (wrap64 (W1 - 1))).f0) > ((rd_T36 l0_2 W1).f0) then (some false) else (spec_PlanOk.l0 k2 (wrap64 (W1 + 1)) a0_0 a0_1 l0_2)) else (none)) else (none)) else (spec_PlanOk.l0 k2 (wrap64 (W1 + 1)) a0_0 a0_1 l0_2)) = some r := by rw [if_pos rfl] at H; exact H
     clear H; have H := H1; clear H1
     by_cases NA : W1 > 0; rotate_left
     · rw [if_neg NA] at H; have NB : decide (0 < W1) = false := decide_eq_false NA; clear NA; have H' := ak H; clear H; obtain ⟨_, _, _, _, _, _⟩ := cel3 C0; try go_wp2
       replace C0 := ak (blk_drew C0.out); replace HB := ak (below_drew1 HB.out); have vd : 0 ≤ (W1 : Int) := odA; have V6 : W1 < (l0_2.length : Int) := odA; obtain ⟨ab, A7, od, oe, og⟩ := at_T36 g0.out W1 vd V6; have h0 := og; have h1 := oe; have h2 := od
       cases A7
       try replace od := cB HB od
       try replace oe := cB HB oe
       try replace og := cB HB og
       replace vd := eq_true vd; replace V6 := eq_true V6; refine start_ (n := 29) (S := fun w' => w'.cell? ⟨c0, 0, none⟩ = some (.int .i64 a0_0) ∧ w'.cell? ⟨c0, 1, none⟩ = some (.int .i64 a0_1) ∧ w'.cell? ⟨c0, 2, none⟩ = some (.slice (some ab) l0_2.length c0_2) ∧ w'.cell? (ab.add ((W1).toNat * 3)) = some (.int .i64 ((rd_T36 l0_2 W1).f0)) ∧ w'.cell? ⟨(ab.add ((W1).toNat * 3)).block, (ab.add ((W1).toNat * 3)).off + 1, none⟩ = some (.int .i64 ((rd_T36 l0_2 W1).f1)) ∧ w'.cell? ⟨(ab.add ((W1).toNat * 3)).block, (ab.add ((W1).toNat * 3)).off + 2, none⟩ = some (.int .i64 ((rd_T36 l0_2 W1).f2))) (ds := []) _ (by kernel_rfl) rfl rfl ⟨bc C0 0, bc C0 1, bc C0 2, (cB HB h2), (cB HB h1), (cB HB h0)⟩ (fun hHeld => ?_); refine with_tabW spec_PlanOk.tab6 spec_PlanOk.bits6 (fun HT_ HW_ => ?_)
       generalize wr.drew = ka at C0 HB od oe og hHeld ⊢
       refine pR 0 29 (ba 29 1) ?_; refine pR 2 31 (ba 29 5) ?_; refine pR 4 33 (ba 29 21) ?_; refine tR6 1 30 (ba 29 23) ?_; refine tR6 3 32 (ba 29 31) ?_; refine pR 5 34 (ba 29 63) ?_; refine tR6 6 35 (ba 29 127) ?_
       refine one_ (i := 7) (N := some 36) (ba 29 255) rfl rfl (one_of HT_.out (by kernel_rfl)) (by decide) (fun K hK => ?_)
       refine goes_ Try.func87 (by kernel_rfl) rfl #[.int .i64 a0_1, .agg #[.int .i64 ((rd_T36 l0_2 W1).f0), .int .i64 ((rd_T36 l0_2 W1).f1), .int .i64 ((rd_T36 l0_2 W1).f2)]] (by rfl) rfl rfl xq12 ?_
       with_reducible refine (spec_l09Run.calls a0_1 ((rd_T36 l0_2 W1).f0) ((rd_T36 l0_2 W1).f1) ((rd_T36 l0_2 W1).f2) true _ Z2.out).mono ?_
       rintro e kb ⟨rfl, hb⟩
       refine ⟨_, rfl, ?_⟩
       replace C0 := bB C0 hb; replace HB := bS hb; (try clear hb); refine hK.out _ _ ⟨bc C0 0, bc C0 1, bc C0 2, (cB HB h2), (cB HB h1), (cB HB h0)⟩ (fun hHeld => ?_)
       clear hK K; refine nR 36 ?_; refine pR 8 37 (ba 29 511) ?_; refine pR 9 38 (ba 29 1023) ?_; refine pR 10 39 (ba 29 2047) ?_; refine pR 11 40 (ba 29 4095) ?_; refine pR 12 41 (ba 29 8191) ?_; refine pU 13 42 (ba 29 16383) ?_; refine pU 14 43 (ba 29 32767) ?_; refine pU 15 44 (ba 29 65535) ?_; refine pU 16 45 (ba 29 131071) ?_; refine pU 17 46 (ba 29 262143) ?_; refine pU 18 47 (ba 29 524287) ?_; refine pU 19 48 (ba 29 1048575) ?_; refine pU 20 49 (ba 29 2097151) ?_; refine pU 21 50 (ba 29 4194303) ?_; refine pU 22 51 (ba 29 8388607) ?_; refine pU 23 52 (ba 29 16777215) ?_; refine pU 24 53 (ba 29 33554431) ?_; refine pU 25 54 (ba 29 67108863) ?_; refine pU 26 55 (ba 29 134217727) ?_; refine pR 27 56 (ba 29 268435455) ?_; refine pR 28 57 (ba 29 536870911) ?_
       refine done_ (done_of HT_.out (by kernel_rfl)) ?_
       try go_wp2
       go_roundg k2
       case measure => have := t0.out; have := n0.out; omega
       case rel => exact ⟨(wrap64 (W1 + 1)), eqA, H', ⟨xq26⟩, ⟨blkA⟩, ⟨belA⟩⟩
     rw [if_pos NA] at H; have NB : decide (0 < W1) = true := decide_eq_true NA; clear NA; obtain ⟨J2, G3⟩ : ∃ j_ : Int, (wrap64 (W1 - 1)) = j_ := ⟨_, rfl⟩; replace H : (if 0 ≤ (J2) then (if (J2) < (l0_2.length : Int) then (if ((rd_T36 l0_2 (J2)).f0) > ((rd_T36 l0_2 W1).f0) then (some false) else (spec_PlanOk.l0 k2 (wrap64 (W1 + 1)) a0_0 a0_1 l0_2)) else (none)) else (none)) = some r := by first | (rw [G3] at H; exact H) | (simp only [G3] at H ⊢; exact H)
     (try rw [G3] at Z2)
     have hji14w : (IntKind.i64.wrap (W1 - 1)) = J2 := (i64_w _).trans G3
     by_cases NC : 0 ≤ (J2); rotate_left
     · rw [if_neg NC] at H; exact absurd H (by simp)
     rw [if_pos NC] at H; have ND := decide_eq_true NC; clear NC
     by_cases NE : (J2) < (l0_2.length : Int); rotate_left
     · rw [if_neg NE] at H; exact absurd H (by simp)
     rw [if_pos NE] at H; have NF := decide_eq_true NE; clear NE
     by_cases NG : ((rd_T36 l0_2 (J2)).f0) > ((rd_T36 l0_2 W1).f0); rotate_left
     · rw [if_neg NG] at H; have NH : decide (((rd_T36 l0_2 W1).f0) < ((rd_T36 l0_2 (J2)).f0)) = false := decide_eq_false NG; clear NG; have H' := ak H; clear H; obtain ⟨_, _, _, _, _, _⟩ := cel3 C0; try go_wp2
       replace C0 := ak (blk_drew C0.out); replace HB := ak (below_drew1 HB.out); have vd : 0 ≤ (W1 : Int) := odA; have V6 : W1 < (l0_2.length : Int) := odA; obtain ⟨ab, A7, od, oe, og⟩ := at_T36 g0.out W1 vd V6; have h0 := og; have h1 := oe; have h2 := od
       cases A7
       try replace od := cB HB od
       try replace oe := cB HB oe
       try replace og := cB HB og
       replace vd := eq_true vd; replace V6 := eq_true V6; have ve : 0 ≤ ((J2) : Int) := odA; have V7 : (J2) < (l0_2.length : Int) := odA; obtain ⟨ac, A8, oh, oj, ol⟩ := at_T36 g0.out (J2) ve V7; have h3 := ol; have h4 := oj; have h5 := oh; obtain rfl : ab = ac := (by injection A8); try replace oh := cB HB oh
       try replace oj := cB HB oj
       try replace ol := cB HB ol
       replace ve := eq_true ve; replace V7 := eq_true V7; have vf : 0 ≤ (W1 : Int) := odA; have V8 : W1 < (l0_2.length : Int) := odA; obtain ⟨ad, A9, om, on, oo⟩ := at_T36 g0.out W1 vf V8; have h6 := oo; have h7 := on; have h8 := om; obtain rfl : ab = ad := (by injection A9); try replace om := cB HB om
       try replace on := cB HB on
       try replace oo := cB HB oo
       replace vf := eq_true vf; replace V8 := eq_true V8; refine start_ (n := 29) (S := fun w' => w'.cell? ⟨c0, 0, none⟩ = some (.int .i64 a0_0) ∧ w'.cell? ⟨c0, 1, none⟩ = some (.int .i64 a0_1) ∧ w'.cell? ⟨c0, 2, none⟩ = some (.slice (some ab) l0_2.length c0_2) ∧ w'.cell? (ab.add ((W1).toNat * 3)) = some (.int .i64 ((rd_T36 l0_2 W1).f0)) ∧ w'.cell? ⟨(ab.add ((W1).toNat * 3)).block, (ab.add ((W1).toNat * 3)).off + 1, none⟩ = some (.int .i64 ((rd_T36 l0_2 W1).f1)) ∧ w'.cell? ⟨(ab.add ((W1).toNat * 3)).block, (ab.add ((W1).toNat * 3)).off + 2, none⟩ = some (.int .i64 ((rd_T36 l0_2 W1).f2)) ∧ w'.cell? (ab.add (((J2)).toNat * 3)) = some (.int .i64 ((rd_T36 l0_2 (J2)).f0)) ∧ w'.cell? ⟨(ab.add (((J2)).toNat * 3)).block, (ab.add (((J2)).toNat * 3)).off + 1, none⟩ = some (.int .i64 ((rd_T36 l0_2 (J2)).f1)) ∧ w'.cell? ⟨(ab.add (((J2)).toNat * 3)).block, (ab.add (((J2)).toNat * 3)).off + 2, none⟩ = some (.int .i64 ((rd_T36 l0_2 (J2)).f2)) ∧ w'.cell? (ab.add ((W1).toNat * 3)) = some (.int .i64 ((rd_T36 l0_2 W1).f0)) ∧ w'.cell? ⟨(ab.add ((W1).toNat * 3)).block, (ab.add ((W1).toNat * 3)).off + 1, none⟩ = some (.int .i64 ((rd_T36 l0_2 W1).f1)) ∧ w'.cell? ⟨(ab.add ((W1).toNat * 3)).block, (ab.add ((W1).toNat * 3)).off + 2, none⟩ = some (.int .i64 ((rd_T36 l0_2 W1).f2))) (ds := []) _ (by kernel_rfl) rfl rfl ⟨bc C0 0, bc C0 1, bc C0 2, (cB HB h2), (cB HB h1), (cB HB h0), (cB HB h5), (cB HB h4), (cB HB h3), (cB HB h8), (cB HB h7), (cB HB h6)⟩ (fun hHeld => ?_); refine with_tabW spec_PlanOk.tab6 spec_PlanOk.bits6 (fun HT_ HW_ => ?_)
       generalize wr.drew = kc at C0 HB od oe og oh oj ol om on oo hHeld ⊢
       refine pR 0 29 (ba 29 1) ?_; refine pR 2 31 (ba 29 5) ?_; refine pR 4 33 (ba 29 21) ?_; refine tR12 1 30 (ba 29 23) ?_; refine tR12 3 32 (ba 29 31) ?_; refine pR 5 34 (ba 29 63) ?_; refine tR12 6 35 (ba 29 127) ?_
       refine one_ (i := 7) (N := some 36) (ba 29 255) rfl rfl (one_of HT_.out (by kernel_rfl)) (by decide) (fun K hK => ?_)
       refine goes_ Try.func87 (by kernel_rfl) rfl #[.int .i64 a0_1, .agg #[.int .i64 ((rd_T36 l0_2 W1).f0), .int .i64 ((rd_T36 l0_2 W1).f1), .int .i64 ((rd_T36 l0_2 W1).f2)]] (by rfl) rfl rfl xq12 ?_
       with_reducible refine (spec_l09Run.calls a0_1 ((rd_T36 l0_2 W1).f0) ((rd_T36 l0_2 W1).f1) ((rd_T36 l0_2 W1).f2) true _ Z2.out).mono ?_
       rintro e kd ⟨rfl, hb⟩
       refine ⟨_, rfl, ?_⟩
       replace C0 := bB C0 hb; replace HB := bS hb; (try clear hb); refine hK.out _ _ ⟨bc C0 0, bc C0 1, bc C0 2, (cB HB h2), (cB HB h1), (cB HB h0), (cB HB h5), (cB HB h4), (cB HB h3), (cB HB h8), (cB HB h7), (cB HB h6)⟩ (fun hHeld => ?_)
       clear hK K; refine nR 36 ?_; refine pR 8 37 (ba 29 511) ?_; refine pR 9 38 (ba 29 1023) ?_; refine pR 10 39 (ba 29 2047) ?_; refine pR 11 40 (ba 29 4095) ?_; refine pR 12 41 (ba 29 8191) ?_; refine pR 13 42 (ba 29 16383) ?_; refine pR 15 44 (ba 29 49151) ?_; refine pR 16 45 (ba 29 114687) ?_; refine pR 20 49 (ba 29 1163263) ?_; refine pR 22 51 (ba 29 5357567) ?_; refine tR12 14 43 (ba 29 5373951) ?_; refine pR 17 46 (ba 29 5505023) ?_; refine pR 18 47 (ba 29 5767167) ?_; refine tR12 19 48 (ba 29 6291455) ?_; refine tR12 21 50 (ba 29 8388607) ?_; refine pR 23 52 (ba 29 16777215) ?_; refine pR 24 53 (ba 29 33554431) ?_; refine tR12 25 54 (ba 29 67108863) ?_; refine pR 26 55 (ba 29 134217727) ?_; refine pR 27 56 (ba 29 268435455) ?_; refine pR 28 57 (ba 29 536870911) ?_
       refine done_ (done_of HT_.out (by kernel_rfl)) ?_
       try go_wp2
       go_roundg k2
       case measure => have := t0.out; have := n0.out; omega
       case rel => exact ⟨(wrap64 (W1 + 1)), eqA, H', ⟨xq26⟩, ⟨blkA⟩, ⟨belA⟩⟩
     rw [if_pos NG] at H; have NH : decide (((rd_T36 l0_2 W1).f0) < ((rd_T36 l0_2 (J2)).f0)) = true := decide_eq_true NG; clear NG; obtain rfl := Option.some.inj H; obtain ⟨_, _, _, _, _, _⟩ := cel3 C0; try go_wp2
     replace C0 := ak (blk_drew C0.out); replace HB := ak (below_drew1 HB.out); have vd : 0 ≤ (W1 : Int) := odA; have V6 : W1 < (l0_2.length : Int) := odA; obtain ⟨ab, A7, od, oe, og⟩ := at_T36 g0.out W1 vd V6; have h0 := og; have h1 := oe; have h2 := od
     cases A7
     try replace od := cB HB od
     try replace oe := cB HB oe
     try replace og := cB HB og
     replace vd := eq_true vd; replace V6 := eq_true V6; have ve : 0 ≤ ((J2) : Int) := odA; have V7 : (J2) < (l0_2.length : Int) := odA; obtain ⟨ac, A8, oh, oj, ol⟩ := at_T36 g0.out (J2) ve V7; have h3 := ol; have h4 := oj; have h5 := oh; obtain rfl : ab = ac := (by injection A8); try replace oh := cB HB oh
     try replace oj := cB HB oj
     try replace ol := cB HB ol
     replace ve := eq_true ve; replace V7 := eq_true V7; have vf : 0 ≤ (W1 : Int) := odA; have V8 : W1 < (l0_2.length : Int) := odA; obtain ⟨ad, A9, om, on, oo⟩ := at_T36 g0.out W1 vf V8; have h6 := oo; have h7 := on; have h8 := om; obtain rfl : ab = ad := (by injection A9); try replace om := cB HB om
     try replace on := cB HB on
     try replace oo := cB HB oo
     replace vf := eq_true vf; replace V8 := eq_true V8; refine start_ (n := 29) (S := fun w' => w'.cell? ⟨c0, 0, none⟩ = some (.int .i64 a0_0) ∧ w'.cell? ⟨c0, 1, none⟩ = some (.int .i64 a0_1) ∧ w'.cell? ⟨c0, 2, none⟩ = some (.slice (some ab) l0_2.length c0_2) ∧ w'.cell? (ab.add ((W1).toNat * 3)) = some (.int .i64 ((rd_T36 l0_2 W1).f0)) ∧ w'.cell? ⟨(ab.add ((W1).toNat * 3)).block, (ab.add ((W1).toNat * 3)).off + 1, none⟩ = some (.int .i64 ((rd_T36 l0_2 W1).f1)) ∧ w'.cell? ⟨(ab.add ((W1).toNat * 3)).block, (ab.add ((W1).toNat * 3)).off + 2, none⟩ = some (.int .i64 ((rd_T36 l0_2 W1).f2)) ∧ w'.cell? (ab.add (((J2)).toNat * 3)) = some (.int .i64 ((rd_T36 l0_2 (J2)).f0)) ∧ w'.cell? ⟨(ab.add (((J2)).toNat * 3)).block, (ab.add (((J2)).toNat * 3)).off + 1, none⟩ = some (.int .i64 ((rd_T36 l0_2 (J2)).f1)) ∧ w'.cell? ⟨(ab.add (((J2)).toNat * 3)).block, (ab.add (((J2)).toNat * 3)).off + 2, none⟩ = some (.int .i64 ((rd_T36 l0_2 (J2)).f2)) ∧ w'.cell? (ab.add ((W1).toNat * 3)) = some (.int .i64 ((rd_T36 l0_2 W1).f0)) ∧ w'.cell? ⟨(ab.add ((W1).toNat * 3)).block, (ab.add ((W1).toNat * 3)).off + 1, none⟩ = some (.int .i64 ((rd_T36 l0_2 W1).f1)) ∧ w'.cell? ⟨(ab.add ((W1).toNat * 3)).block, (ab.add ((W1).toNat * 3)).off + 2, none⟩ = some (.int .i64 ((rd_T36 l0_2 W1).f2))) (ds := []) _ (by kernel_rfl) rfl rfl ⟨bc C0 0, bc C0 1, bc C0 2, (cB HB h2), (cB HB h1), (cB HB h0), (cB HB h5), (cB HB h4), (cB HB h3), (cB HB h8), (cB HB h7), (cB HB h6)⟩ (fun hHeld => ?_); refine with_tabW spec_PlanOk.tab6 spec_PlanOk.bits6 (fun HT_ HW_ => ?_)
     generalize wr.drew = ke at C0 HB od oe og oh oj ol om on oo hHeld ⊢
     refine pR 0 29 (ba 29 1) ?_; refine pR 2 31 (ba 29 5) ?_; refine pR 4 33 (ba 29 21) ?_; refine tR12 1 30 (ba 29 23) ?_; refine tR12 3 32 (ba 29 31) ?_; refine pR 5 34 (ba 29 63) ?_; refine tR12 6 35 (ba 29 127) ?_
     refine one_ (i := 7) (N := some 36) (ba 29 255) rfl rfl (one_of HT_.out (by kernel_rfl)) (by decide) (fun K hK => ?_)
     refine goes_ Try.func87 (by kernel_rfl) rfl #[.int .i64 a0_1, .agg #[.int .i64 ((rd_T36 l0_2 W1).f0), .int .i64 ((rd_T36 l0_2 W1).f1), .int .i64 ((rd_T36 l0_2 W1).f2)]] (by rfl) rfl rfl xq12 ?_
     with_reducible refine (spec_l09Run.calls a0_1 ((rd_T36 l0_2 W1).f0) ((rd_T36 l0_2 W1).f1) ((rd_T36 l0_2 W1).f2) true _ Z2.out).mono ?_
     rintro e kf ⟨rfl, hb⟩
     refine ⟨_, rfl, ?_⟩
     replace C0 := bB C0 hb; replace HB := bS hb; (try clear hb); refine hK.out _ _ ⟨bc C0 0, bc C0 1, bc C0 2, (cB HB h2), (cB HB h1), (cB HB h0), (cB HB h5), (cB HB h4), (cB HB h3), (cB HB h8), (cB HB h7), (cB HB h6)⟩ (fun hHeld => ?_)
     clear hK K; refine nR 36 ?_; refine pR 8 37 (ba 29 511) ?_; refine pR 9 38 (ba 29 1023) ?_; refine pR 10 39 (ba 29 2047) ?_; refine pR 11 40 (ba 29 4095) ?_; refine pR 12 41 (ba 29 8191) ?_; refine pR 13 42 (ba 29 16383) ?_; refine pR 15 44 (ba 29 49151) ?_; refine pR 16 45 (ba 29 114687) ?_; refine pR 20 49 (ba 29 1163263) ?_; refine pR 22 51 (ba 29 5357567) ?_; refine tR12 14 43 (ba 29 5373951) ?_; refine pR 17 46 (ba 29 5505023) ?_; refine pR 18 47 (ba 29 5767167) ?_; refine tR12 19 48 (ba 29 6291455) ?_; refine tR12 21 50 (ba 29 8388607) ?_; refine pR 23 52 (ba 29 16777215) ?_; refine pR 24 53 (ba 29 33554431) ?_; refine tR12 25 54 (ba 29 67108863) ?_; refine pR 26 55 (ba 29 134217727) ?_; refine pR 27 56 (ba 29 268435455) ?_; refine pR 28 57 (ba 29 536870911) ?_
     refine done_ (done_of HT_.out (by kernel_rfl)) ?_
     try go_wp2
     go_ret
     exact ⟨by first | rfl | (simp [errW_none, errW_some] <;> rfl) | (simp only [← G3]; first | rfl | (simp [errW_none, errW_some] <;> rfl)) | (simp [*, errW_none, errW_some] <;> rfl) | (simp [wrap64]; done) | (simp [*, wrap64]; done), belA⟩

end Go.Proofs.Ytbojabmpcfclhaa.PFnPlanTurned

-- Written by a program of this session (the print of the kit with contracts of this session's own added)
import Derived.Test.YtogdhclomgafdaaZFDx5
namespace Go.Proofs.Ytogdhclomgafdaa.PFnDealt
open Go.RowKit Go.Proofs.YtogdhclomgafdaaW.PrintWords Go.Proofs.YtogdhclomgafdaaW.PrintLast Go.Proofs.YtogdhclomgafdaaW.PrintMore Go.Proofs.YtogdhclomgafdaaW.PrintPack
attribute [local go_sem] max2_int min2_int max_two min_two max_three min_three max_four min_four   -- for this text's walks alone
set_option linter.unusedVariables false
set_option linter.unusedSimpArgs false

mutual
def spec_PlanOk.j0 : Nat → Bool → Int → Int → List (S93) → Option (Bool)
 | 0, _, _, _, _ => none
 | k + 1, x21, x226000, x226001, x226002 => if x21 = true then (some false) else (spec_PlanOk.l0 k 0 x226000 x226001 x226002)
def spec_PlanOk.l0 : Nat → Int → Int → Int → List (S93) → Option (Bool)
 | 0, _, _, _, _ => none
 | k + 1, x3, x226000, x226001, x226002 => if x3 < (x226002.length : Int) then (if 0 ≤ x3 then ((spec_l09Run.f x226001 ((rd_T93 x226002 x3).f0) ((rd_T93 x226002 x3).f1) ((rd_T93 x226002 x3).f2)).bind fun t228 => (if t228 = true then (if x3 > 0 then (if 0 ≤ (wrap64 (x3 - 1)) then (if (wrap64 (x3 - 1)) < (x226002.length : Int) then (if ((rd_T93 x226002 (wrap64 (x3 - 1))).f0) > ((rd_T93 x226002 x3).f0) then (some false) else (spec_PlanOk.l0 k (wrap64 (x3 + 1)) x226000 x226001 x226002)) else (none)) else (none)) else (spec_PlanOk.l0 k (wrap64 (x3 + 1)) x226000 x226001 x226002)) else (some false))) else (none)) else (spec_PlanOk.l1 k 0 x226000 x226001 x226002)
def spec_PlanOk.l1 : Nat → Int → Int → Int → List (S93) → Option (Bool)
 | 0, _, _, _, _ => none
 | k + 1, x4, x226000, x226001, x226002 => if x4 < x226001 then (spec_PlanOk.l2 k x4 (([] : List Int)) 0 x226000 x226001 x226002) else (some true)
def spec_PlanOk.l2 : Nat → Int → List Int → Int → Int → Int → List (S93) → Option (Bool)
 | 0, _, _, _, _, _, _ => none
 | k + 1, x4, x5, x6, x226000, x226001, x226002 => if 0 ≤ (IntKind.u64.wrap (x226001)) then (if x6 < (wrap64 (Int.tdiv (shl .i64 1 (IntKind.u64.wrap (x226001))) 2)) then (if x5.length < 17592186044416 then (spec_PlanOk.l2 k x4 (x5 ++ [0]) (wrap64 (x6 + 1)) x226000 x226001 x226002) else (none)) else (spec_PlanOk.l3 k x4 x5 0 x226000 x226001 x226002)) else (none)
def spec_PlanOk.l3 : Nat → Int → List Int → Int → Int → Int → List (S93) → Option (Bool)
 | 0, _, _, _, _, _, _ => none
 | k + 1, x4, x5, x7, x226000, x226001, x226002 => if x7 < (x226002.length : Int) then (if 0 ≤ x7 then (if ((rd_T93 x226002 x7).f0) = x4 then (spec_PlanOk.l4 k x4 x5 x7 ((rd_T93 x226002 x7).f1) x226000 x226001 x226002) else (spec_PlanOk.l3 k x4 x5 (wrap64 (x7 + 1)) x226000 x226001 x226002)) else (none)) else (spec_PlanOk.l5 k x4 x5 0 x226000 x226001 x226002)
def spec_PlanOk.l4 : Nat → Int → List Int → Int → Int → Int → Int → List (S93) → Option (Bool)
 | 0, _, _, _, _, _, _, _ => none
 | k + 1, x4, x5, x7, x8, x226000, x226001, x226002 => if 0 ≤ x7 then (if x7 < (x226002.length : Int) then (if x8 < ((rd_T93 x226002 x7).f2) then (if 0 ≤ x8 then (if x8 < (x5.length : Int) then (spec_PlanOk.l4 k x4 (x5.set (x8 : Int).toNat (wrap64 ((rd x5 x8) + 1))) x7 (wrap64 (x8 + 1)) x226000 x226001 x226002) else (none)) else (none)) else (spec_PlanOk.l3 k x4 x5 (wrap64 (x7 + 1)) x226000 x226001 x226002)) else (none)) else (none)
def spec_PlanOk.l5 : Nat → Int → List Int → Int → Int → Int → List (S93) → Option (Bool)
 | 0, _, _, _, _, _, _ => none
 | k + 1, x4, x5, x9, x226000, x226001, x226002 => if x9 < (x5.length : Int) then (if 0 ≤ x9 then (if (rd x5 x9) = 1 then (spec_PlanOk.l5 k x4 x5 (wrap64 (x9 + 1)) x226000 x226001 x226002) else (some false)) else (none)) else (spec_PlanOk.l1 k (wrap64 (x4 + 1)) x226000 x226001 x226002)
end
def spec_PlanOk.f (k : Nat) (a0_0 : Int) (a0_1 : Int) (l0_2 : List (S93)) : Option (Bool) := (spec_l09Log.f k a0_0 a0_1).bind fun t226 => (if t226 = true then (spec_PlanOk.j0 k (decide ((l0_2.length : Int) > 600)) a0_0 a0_1 l0_2) else (spec_PlanOk.j0 k true a0_0 a0_1 l0_2))
theorem spec_PlanOk.mono_l : ∀ k, (∀ y0 y1 y2 y3, LeO (spec_PlanOk.j0 k y0 y1 y2 y3) (spec_PlanOk.j0 (k + 1) y0 y1 y2 y3)) ∧ (∀ y0 y1 y2 y3, LeO (spec_PlanOk.l0 k y0 y1 y2 y3) (spec_PlanOk.l0 (k + 1) y0 y1 y2 y3)) ∧ (∀ y0 y1 y2 y3, LeO (spec_PlanOk.l1 k y0 y1 y2 y3) (spec_PlanOk.l1 (k + 1) y0 y1 y2 y3)) ∧ (∀ y0 y1 y2 y3 y4 y5, LeO (spec_PlanOk.l2 k y0 y1 y2 y3 y4 y5) (spec_PlanOk.l2 (k + 1) y0 y1 y2 y3 y4 y5)) ∧ (∀ y0 y1 y2 y3 y4 y5, LeO (spec_PlanOk.l3 k y0 y1 y2 y3 y4 y5) (spec_PlanOk.l3 (k + 1) y0 y1 y2 y3 y4 y5)) ∧ (∀ y0 y1 y2 y3 y4 y5 y6, LeO (spec_PlanOk.l4 k y0 y1 y2 y3 y4 y5 y6) (spec_PlanOk.l4 (k + 1) y0 y1 y2 y3 y4 y5 y6)) ∧ (∀ y0 y1 y2 y3 y4 y5, LeO (spec_PlanOk.l5 k y0 y1 y2 y3 y4 y5) (spec_PlanOk.l5 (k + 1) y0 y1 y2 y3 y4 y5))
 | 0 => ⟨fun _ _ _ _ r h => by simp [spec_PlanOk.j0] at h, fun _ _ _ _ r h => by simp [spec_PlanOk.l0] at h, fun _ _ _ _ r h => by simp [spec_PlanOk.l1] at h, fun _ _ _ _ _ _ r h => by simp [spec_PlanOk.l2] at h, fun _ _ _ _ _ _ r h => by simp [spec_PlanOk.l3] at h, fun _ _ _ _ _ _ _ r h => by simp [spec_PlanOk.l4] at h, fun _ _ _ _ _ _ r h => by simp [spec_PlanOk.l5] at h⟩
 | k + 1 => by
  obtain ⟨ih0, ih1, ih2, ih3, ih4, ih5, ih6⟩ := spec_PlanOk.mono_l k; refine ⟨?_, ?_, ?_, ?_, ?_, ?_, ?_⟩
  · intro y0 y1 y2 y3; unfold spec_PlanOk.j0; exact xq25
  · intro y0 y1 y2 y3; unfold spec_PlanOk.l0; exact xq25
  · intro y0 y1 y2 y3; unfold spec_PlanOk.l1; exact xq25
  · intro y0 y1 y2 y3 y4 y5; unfold spec_PlanOk.l2; exact xq25
  · intro y0 y1 y2 y3 y4 y5; unfold spec_PlanOk.l3; exact xq25
  · intro y0 y1 y2 y3 y4 y5 y6; unfold spec_PlanOk.l4; exact xq25
  · intro y0 y1 y2 y3 y4 y5; unfold spec_PlanOk.l5; exact xq25
theorem spec_PlanOk.mono : ∀ a0 a1 a2 k, LeO (spec_PlanOk.f k a0 a1 a2) (spec_PlanOk.f (k + 1) a0 a1 a2) := by
 intro a0 a1 a2 k; obtain ⟨ih0, ih1, ih2, ih3, ih4, ih5, ih6⟩ := spec_PlanOk.mono_l k
 unfold spec_PlanOk.f
 exact xq25
def spec_PlanOk.T6 : Bool × List (List Nat × List Nat) := (true, [([], []), ([0], [0]), ([], []), ([2], [2]), ([], []), ([3, 4], [3, 4]), ([5], [5]), ([1, 6], [1, 6]), ([7], [7]), ([8, 7], [8]), ([9], [9]), ([10, 9], [9, 10]), ([11, 9, 9], [9, 11]), ([12], [12]), ([13, 12], [12, 13]), ([12], [12]), ([15, 12], [12, 15]), ([14, 16, 12], [12, 14, 16]), ([17, 12], [12, 17]), ([18, 12], [12, 18]), ([12], [12]), ([20, 12], [12, 20]), ([12], [12]), ([21, 22, 12], [12, 21, 22]), ([23, 12], [12, 23]), ([24, 12], [12, 24]), ([19, 25, 12], [12, 19, 25]), ([12, 26, 9], [9, 12, 26]), ([9, 27], [9, 27])])
def spec_PlanOk.B6 : List Nat := [0, 1, 0, 4, 0, 28, 60, 127, 255, 511, 1023, 2047, 4095, 8191, 16383, 8191, 40959, 131071, 262143, 524287, 8191, 1056767, 8191, 7348223, 15736831, 32514047, 67108863, 134217727, 268435455]
theorem spec_PlanOk.tab6 : rtab .any (opsOf Try.f61 6) = spec_PlanOk.T6 := by kernel_rfl
theorem spec_PlanOk.bits6 : waitsOk spec_PlanOk.T6.2 spec_PlanOk.B6 = true := by kernel_rfl
set_option maxHeartbeats 8000000 in
set_option maxRecDepth 100000 in
theorem spec_PlanOk.calls (k : Nat) (a0_0 : Int) (a0_1 : Int) (A0_2 : Option Addr) (c0_2 : Nat) (l0_2 : List (S93)) (r : Bool) (w : World) (hr0_2 : Kd.C k93 w A0_2 l0_2.length l0_2) (hc0_2 : l0_2.length ≤ c0_2) (h : spec_PlanOk.f k a0_0 a0_1 l0_2 = some r) :
 Calls Try.prog 61 #[.agg #[.int .i64 a0_0, .int .i64 a0_1, .slice A0_2 l0_2.length c0_2]] w fun e w' => e = .returned (.bool r) ∧ Below w.heap.size w w' := by
 have hu26 := Try.underlying26; have hu93 := Try.underlying93; have HR0_2 := ak hr0_2; have HC0_2 := ak hc0_2; clear hr0_2 hc0_2; have HB := ak (Below.refl w.heap.size w); have H : ((spec_l09Log.f k a0_0 a0_1).bind fun t226 => (if t226 = true then (spec_PlanOk.j0 k (decide ((l0_2.length : Int) > 600)) a0_0 a0_1 l0_2) else (spec_PlanOk.j0 k true a0_0 a0_1 l0_2))) = some r := h; clear h; have HC2 := ak H; clear H; go_enter Try.func61, Try.ntmps61
 go_upto_region 1 with (first | ((with_reducible refine gate_dst (N := 1) rfl ?_); (try (refine gate_guard (by rfl) ?_; dsimp only)); refine boxA 1 #[.int .i64 a0_0, .int .i64 a0_1, .slice A0_2 l0_2.length c0_2] 26 ?_; intro gb225 hg w3 hbox hb; have BK225 := ak hbox; have GW225 := leA (w := w) hg; have GE225 := leA (w := w) hg; replace HB := bS hb; clear hb hbox hg))
 (try simp only [Act.put, sa, sb, sc])
 go_cut [21] (fun v21 wc => ∃ (kq : Nat) (x21_1 : Bool), v21 = .bool x21_1 ∧ Aside0 (spec_PlanOk.j0 kq x21_1 a0_0 a0_1 l0_2 = some r) ∧ Aside0 (kq ≤ k) ∧ Aside0 (wc.heap[gb225]? = some (.cells #[.int .i64 a0_0, .int .i64 a0_1, (.slice A0_2 l0_2.length c0_2)] 26 (0, 0))) ∧ Aside0 (Below w.heap.size w wc))
 case first =>
  have H := HC2.out; clear HC2; replace H := Option.bind_eq_some_iff.mp H; obtain ⟨t226, A40, H⟩ := H; (try dsimp only at H); have A4 := ak A40; clear A40
  by_cases c5 : t226 = true
  · subst c5; have H1 : (spec_PlanOk.j0 k (decide ((l0_2.length : Int) > 600)) a0_0 a0_1 l0_2) = some r := by rw [if_pos rfl] at H; exact H
    clear H; have H := H1; clear H1; have H' := ak H; clear H; obtain ⟨_, _, _, _, _, _⟩ := cel3 BK225; go_wp2_with (first | ((with_reducible refine gate_callee (f := 101) rfl ?_); refine goB 14 Try.func101 #[.int .i64 a0_0, .int .i64 a0_1] rfl ?_; (with_reducible refine (spec_l09Log.calls k a0_0 a0_1 true _ A4.out).mono ?_); rintro e w' ⟨rfl, ⟨nd, rfl⟩⟩; refine ⟨_, rfl, ?_⟩))
    go_meet
    case rel => exact ⟨_, (decide ((l0_2.length : Int) > 600)), eqA, H', ⟨xq13⟩, ⟨blkA⟩, ⟨belA⟩⟩
  replace c5 := Bool.eq_false_iff.mpr c5; subst c5; have H1 : (spec_PlanOk.j0 k true a0_0 a0_1 l0_2) = some r := by rw [if_neg (show ¬ (false = true) by decide)] at H; exact H
  clear H; have H := H1; clear H1; have H' := ak H; clear H; obtain ⟨_, _, _, _, _, _⟩ := cel3 BK225; go_wp2_with (first | ((with_reducible refine gate_callee (f := 101) rfl ?_); refine goB 14 Try.func101 #[.int .i64 a0_0, .int .i64 a0_1] rfl ?_; (with_reducible refine (spec_l09Log.calls k a0_0 a0_1 false _ A4.out).mono ?_); rintro e w' ⟨rfl, ⟨nd, rfl⟩⟩; refine ⟨_, rfl, ?_⟩))
  go_meet
  case rel => exact ⟨_, (true), eqA, H', ⟨xq13⟩, ⟨blkA⟩, ⟨belA⟩⟩
 case rest =>
  clear HC2; obtain ⟨kq, x21_1, rfl, HA, HJ1, BK225, HB⟩ := hcut
  cases kq with
  | zero => exact absurd HA.out (by simp [spec_PlanOk.j0])
  | succ kj1 =>
   have H := HA.out; clear HA; simp only [spec_PlanOk.j0] at H
   by_cases c8 : x21_1 = true
   · subst c8; have H1 : (some false) = some r := by rw [if_pos rfl] at H; exact H
     clear H; have H := H1; clear H1; obtain rfl := Option.some.inj H; go_wp2
     go_ret
     exact ⟨xq2, belA⟩
   replace c8 := Bool.eq_false_iff.mpr c8; subst c8; have H1 : (spec_PlanOk.l0 kj1 0 a0_0 a0_1 l0_2) = some r := by rw [if_neg (show ¬ (false = true) by decide)] at H; exact H
   clear H; have H := H1; clear H1; have H' := ak H; clear H; go_wp2
   go_loopg [3] kj1 (fun kq v3 w' => ∃ (x3_2 : Int), v3 = .int .i64 x3_2 ∧ Aside0 (spec_PlanOk.l0 kq x3_2 a0_0 a0_1 l0_2 = some r) ∧ Aside0 (kq ≤ kj1) ∧ Aside0 (w'.heap[gb225]? = some (.cells #[.int .i64 a0_0, .int .i64 a0_1, (.slice A0_2 l0_2.length c0_2)] 26 (0, 0))) ∧ Aside0 (Below w.heap.size w w'))
   case atStart => exact ⟨(0), eqA, H', ⟨Nat.le_refl _⟩, ⟨blkA⟩, ⟨belA⟩⟩
   case round =>
    clear H'; obtain ⟨x3_2, rfl, HA, HK2, BK225, HB⟩ := hrel
    cases gk with
    | zero => exact absurd HA.out (by simp [spec_PlanOk.l0])
    | succ k2 =>
     have H := HA.out; clear HA; simp only [spec_PlanOk.l0] at H
     by_cases c9 : x3_2 < (l0_2.length : Int); rotate_left
     · rw [if_neg c9] at H; have c9b0 := decide_eq_false c9; clear c9; have H' := ak H; clear H; obtain ⟨_, _, _, _, _, _⟩ := cel3 BK225; go_wp2
       go_loopg [4] k2 (fun kq v4 w' => ∃ (x4_3 : Int), v4 = .int .i64 x4_3 ∧ Aside0 (spec_PlanOk.l1 kq x4_3 a0_0 a0_1 l0_2 = some r) ∧ Aside0 (kq ≤ k2) ∧ Aside0 (w'.heap[gb225]? = some (.cells #[.int .i64 a0_0, .int .i64 a0_1, (.slice A0_2 l0_2.length c0_2)] 26 (0, 0))) ∧ Aside0 (Below w.heap.size w w'))
       case atStart => exact ⟨(0), eqA, H', ⟨Nat.le_refl _⟩, ⟨blkA⟩, ⟨belA⟩⟩
       case round =>
        clear H'; obtain ⟨x4_3, rfl, HA, HK3, BK225, HB⟩ := hrel
        cases gk with
        | zero => exact absurd HA.out (by simp [spec_PlanOk.l1])
        | succ k3 =>
         have H := HA.out; clear HA; simp only [spec_PlanOk.l1] at H
         by_cases c31 : x4_3 < a0_1; rotate_left
         · rw [if_neg c31] at H; have c31b0 := decide_eq_false c31; clear c31; obtain rfl := Option.some.inj H; obtain ⟨_, _, _, _, _, _⟩ := cel3 BK225; go_wp2
           go_ret
           exact ⟨xq2, belA⟩
         rw [if_pos c31] at H; have c31b0 := decide_eq_true c31; clear c31; obtain ⟨y231, hyq⟩ : ∃ y_ : List Int, y_ = (([] : List Int)) := ⟨_, rfl⟩; replace H : (spec_PlanOk.l2 k3 x4_3 y231 0 a0_0 a0_1 l0_2) = some r := by first | (rw [hyq]; with_reducible exact H) | (have H2_ := (Option.bind_some _ _).symm.trans H; rw [hyq]; with_reducible exact H2_) | (have H2_ := (Option.bind_some _ _).symm.trans H; with_reducible exact H2_) | with_reducible exact H | (rw [hyq]; exact H) | exact H
         have Ny231 := ak hyq; clear hyq; have H' := ak H; clear H; obtain ⟨_, _, _, _, _, _⟩ := cel3 BK225; go_wp2_with (first | ((with_reducible refine gate_dst (N := 64) rfl ?_); (try (refine gate_guard (by rfl) ?_; dsimp only)); refine Kd.R_lit (Kd.int .i64) _ 3 ?hg (N := 64) ?hd (xs := ([] : List Int)) (inner := []) (ok := fun _ => True) (okp := fun _ => True) ?hr ?hp (fun _ hk => hk) trivial (Below.refl _ _) (Nat.le_refl _) (by simp) ?_; (case hd => rfl); (case hg => rfl); (case hr => exact xq5); (case hp => exact (Reps.none _ _)); intro v232 w33 ho34 hb hg_ hnew_; clear hg_ hnew_; (first | rw [← Ny231.out] at ho34 | (simp only [Int.reduceToNat] at ho34; rw [← Ny231.out] at ho34)); have HO233 := rL ho34; replace BK225 := bB BK225 hb; replace HB := bS hb; clear hb ho34))
         go_loopg [5, 6] k3 (fun kq v5 v6 w' => ∃ (x5_4 : List Int) (x6_4 : Int), v6 = .int .i64 x6_4 ∧ Aside0 (spec_PlanOk.l2 kq x4_3 x5_4 x6_4 a0_0 a0_1 l0_2 = some r) ∧ Aside0 (kq ≤ k3) ∧ Aside0 (Kd.R (Kd.int .i64) 3 w' w.heap.size (fun _ => True) v5 x5_4) ∧ Aside0 (w'.heap[gb225]? = some (.cells #[.int .i64 a0_0, .int .i64 a0_1, (.slice A0_2 l0_2.length c0_2)] 26 (0, 0))) ∧ Aside0 (Below w.heap.size w w'))
         case atStart => exact ⟨(y231), (0), eqA, H', ⟨Nat.le_refl _⟩, ⟨rA HO233⟩, ⟨blkA⟩, ⟨belA⟩⟩
         case round =>
          clear H'; obtain ⟨x5_4, x6_4, rfl, HA, HK4, HO_5, BK225, HB⟩ := hrel
          cases gk with
          | zero => exact absurd HA.out (by simp [spec_PlanOk.l2])
          | succ k4 =>
           have H := HA.out; clear HA; simp only [spec_PlanOk.l2] at H; obtain ⟨ji35, hji35⟩ : ∃ j_ : Int, (IntKind.u64.wrap (a0_1)) = j_ := ⟨_, rfl⟩; replace H : (if 0 ≤ (ji35) then (if x6_4 < (wrap64 (Int.tdiv (shl .i64 1 (ji35)) 2)) then (if x5_4.length < 17592186044416 then (spec_PlanOk.l2 k4 x4_3 (x5_4 ++ [0]) (wrap64 (x6_4 + 1)) a0_0 a0_1 l0_2) else (none)) else (spec_PlanOk.l3 k4 x4_3 x5_4 0 a0_0 a0_1 l0_2)) else (none)) = some r := by first | (rw [hji35] at H; exact H) | (simp only [hji35] at H ⊢; exact H)
           by_cases c36 : 0 ≤ (ji35); rotate_left
           · rw [if_neg c36] at H; exact absurd H (by simp)
           rw [if_pos c36] at H; have c36b0 := eq_true c36; have c36b1 : decide (0 ≤ (ji35)) = true := decide_eq_true c36; clear c36; obtain ⟨ji37, hji37⟩ : ∃ j_ : Int, (shl .i64 1 (ji35)) = j_ := ⟨_, rfl⟩; replace H : (if x6_4 < (wrap64 (Int.tdiv (ji37) 2)) then (if x5_4.length < 17592186044416 then (spec_PlanOk.l2 k4 x4_3 (x5_4 ++ [0]) (wrap64 (x6_4 + 1)) a0_0 a0_1 l0_2) else (none)) else (spec_PlanOk.l3 k4 x4_3 x5_4 0 a0_0 a0_1 l0_2)) = some r := by first | (rw [hji37] at H; exact H) | (simp only [hji37] at H ⊢; exact H)
           have hji37_ : (IntKind.i64.wrap (1 * 2 ^ min (ji35).toNat 64)) = ji37 := hji37; have hji37z : (ji35) ≤ 64 → (IntKind.i64.wrap (1 * 2 ^ (ji35).toNat)) = ji37 := shl_small hji37; have hji37u : (IntKind.i64.wrap (2 ^ min (ji35).toNat 64)) = ji37 := by have h_ := hji37_; rw [Int.one_mul] at h_; exact h_
           have hji37v : (ji35) ≤ 64 → (IntKind.i64.wrap (2 ^ (ji35).toNat)) = ji37 := fun hle_ => by have h_ := hji37z hle_; rw [Int.one_mul] at h_; exact h_
           have hji37y : (wrap64 (1 * 2 ^ min (ji35).toNat 64)) = ji37 := (i64_w _).symm.trans hji37_; have hji37x : (ji35) ≤ 64 → (wrap64 (1 * 2 ^ (ji35).toNat)) = ji37 := fun h_ => (i64_w _).symm.trans (hji37z h_)
           by_cases c38 : x6_4 < (wrap64 (Int.tdiv (ji37) 2))
           · rw [if_pos c38] at H; have c38b0 := decide_eq_true c38; have c38b0w : decide (x6_4 < (IntKind.i64.wrap (Int.tdiv (ji37) 2))) = true := by simp only [i64_w]; exact c38b0
             clear c38
             by_cases c39 : x5_4.length < 17592186044416; rotate_left
             · rw [if_neg c39] at H; exact absurd H (by simp)
             rw [if_pos c39] at H; have LMc39 := ak c39; clear c39; obtain ⟨y234, hyq⟩ : ∃ y_ : List Int, y_ = (x5_4 ++ [0]) := ⟨_, rfl⟩; replace H : (spec_PlanOk.l2 k4 x4_3 y234 (wrap64 (x6_4 + 1)) a0_0 a0_1 l0_2) = some r := by first | (rw [hyq]; with_reducible exact H) | (have H2_ := (Option.bind_some _ _).symm.trans H; rw [hyq]; with_reducible exact H2_) | (have H2_ := (Option.bind_some _ _).symm.trans H; with_reducible exact H2_) | with_reducible exact H | (rw [hyq]; exact H) | exact H
             have Ny234 := ak hyq; clear hyq; have H' := ak H; clear H; obtain ⟨_, _, _, _, _, _⟩ := cel3 BK225; go_wp2_with (first | ((with_reducible refine gate_builtin (b := .append) (xs := #[.tmp 74, .tmp 75]) rfl ?_); (try (refine gate_guard (by rfl) ?_; dsimp only)); at_builtin; refine Kd.R_append (Kd.int .i64) (w0 := w) w.heap.size rfl (.tmp 74) (.tmp 75) 33 3 (.int .i64 0) 8 rfl Try.underlying33 info3 rfl (by decide) (by omega) u5 x5_4 0 [.int .i64 0] (fun _ => True) (fun _ => False) rfl rfl ?aP (fun _ hk => hk.elim) ?aF ?aO ?aB ?aS ?aL ?_; (case aP => exact rfl); (case aB => exact belA); (case aF => exact (fun _ _ => trivial)); (case aO => exact (rF HO_5)); (case aS => exact (below_size belA)); (case aL => have := LMc39.out; omega); intro v235 w41 ho hb hg hat; rw [← Ny234.out] at ho; have HO236 := ak ho; replace BK225 := ak (blk_grown (g := gb225) (o := .cells #[.int .i64 a0_0, .int .i64 a0_1, .slice A0_2 l0_2.length c0_2] 26 (0, 0)) blkA hg (Kd.R_ne HO_5.out BK225.out (by decide))); replace HB := ak hb; clear HO_5; clear ho hb hg hat))
             go_roundg k4
             case measure => have := HJ1.out; have := HK2.out; have := HK3.out; have := HK4.out; omega
             case rel => exact ⟨(y234), (wrap64 (x6_4 + 1)), eqA, H', ⟨by have := HJ1.out; have := HK2.out; have := HK3.out; have := HK4.out; omega⟩, ⟨rA HO236⟩, ⟨blkA⟩, ⟨belA⟩⟩
           rw [if_neg c38] at H; have c38b0 := decide_eq_false c38; have c38b0w : decide (x6_4 < (IntKind.i64.wrap (Int.tdiv (ji37) 2))) = false := by simp only [i64_w]; exact c38b0
           clear c38; have H' := ak H; clear H; obtain ⟨_, _, _, _, _, _⟩ := cel3 BK225; go_wp2
           go_loopg [7] k4 (fun kq v7 w' => ∃ (x5_5 : List Int) (x7_5 : Int), v7 = .int .i64 x7_5 ∧ Aside0 (spec_PlanOk.l3 kq x4_3 x5_5 x7_5 a0_0 a0_1 l0_2 = some r) ∧ Aside0 (kq ≤ k4) ∧ Aside0 (Kd.R (Kd.int .i64) 3 w' w.heap.size (fun _ => True) u5 x5_5) ∧ Aside0 (w'.heap[gb225]? = some (.cells #[.int .i64 a0_0, .int .i64 a0_1, (.slice A0_2 l0_2.length c0_2)] 26 (0, 0))) ∧ Aside0 (Below w.heap.size w w'))
           case atStart => exact ⟨(x5_4), (0), eqA, H', ⟨Nat.le_refl _⟩, ⟨rA HO_5⟩, ⟨blkA⟩, ⟨belA⟩⟩
           case round =>
            clear H'; obtain ⟨x5_5, x7_5, rfl, HA, HK5, HO_5, BK225, HB⟩ := hrel
            cases gk with
            | zero => exact absurd HA.out (by simp [spec_PlanOk.l3])
            | succ k5 =>
             have H := HA.out; clear HA; simp only [spec_PlanOk.l3] at H
             by_cases c43 : x7_5 < (l0_2.length : Int); rotate_left
             · rw [if_neg c43] at H; have c43b0 := decide_eq_false c43; clear c43; have H' := ak H; clear H; obtain ⟨_, _, _, _, _, _⟩ := cel3 BK225; go_wp2
               go_loopg [9] k5 (fun kq v9 w' => ∃ (x9_6 : Int), v9 = .int .i64 x9_6 ∧ Aside0 (spec_PlanOk.l5 kq x4_3 x5_5 x9_6 a0_0 a0_1 l0_2 = some r) ∧ Aside0 (kq ≤ k5) ∧ Aside0 (Kd.R (Kd.int .i64) 3 w' w.heap.size (fun _ => True) u5 x5_5) ∧ Aside0 (w'.heap[gb225]? = some (.cells #[.int .i64 a0_0, .int .i64 a0_1, (.slice A0_2 l0_2.length c0_2)] 26 (0, 0))) ∧ Aside0 (Below w.heap.size w w'))
               case atStart => exact ⟨(0), eqA, H', ⟨Nat.le_refl _⟩, ⟨rA HO_5⟩, ⟨blkA⟩, ⟨belA⟩⟩
               case round =>
                clear H'; obtain ⟨x9_6, rfl, HA, HK6, HO_5, BK225, HB⟩ := hrel
                cases gk with
                | zero => exact absurd HA.out (by simp [spec_PlanOk.l5])
                | succ k6 =>
                 have H := HA.out; clear HA; simp only [spec_PlanOk.l5] at H
                 by_cases c60 : x9_6 < (x5_5.length : Int); rotate_left
                 · rw [if_neg c60] at H; have c60b0 := decide_eq_false c60; clear c60; have H' := ak H; clear H; obtain ⟨Ao65, co65, eo65⟩ := Kd.R_slice HO_5.out; subst eo65; go_wp2
                   go_roundg k6
                   case measure => have := HJ1.out; have := HK2.out; have := HK3.out; have := HK4.out; have := HK5.out; have := HK6.out; omega
                   case rel => exact ⟨(wrap64 (x4_3 + 1)), eqA, H', ⟨xq45⟩, ⟨blkA⟩, ⟨belA⟩⟩
                 rw [if_pos c60] at H; have c60b0 := decide_eq_true c60; clear c60
                 by_cases c61 : 0 ≤ x9_6; rotate_left
                 · rw [if_neg c61] at H; exact absurd H (by simp)
                 rw [if_pos c61] at H; have c61b0 := decide_eq_true c61; clear c61
                 by_cases c62 : (rd x5_5 x9_6) = 1; rotate_left
                 · rw [if_neg c62] at H; have c62b0 : ((rd x5_5 x9_6) == 1) = false := beq_eq_false_iff_ne.mpr c62; have c62b1 : ((rd x5_5 x9_6) != 1) = true := bne_iff_ne.mpr c62; obtain rfl := Option.some.inj H; obtain ⟨Ao64, co64, eo64⟩ := Kd.R_slice HO_5.out; subst eo64; have p242 : 0 ≤ (x9_6 : Int) := odA; have q242 : x9_6 < (x5_5.length : Int) := odA; obtain ⟨ad242, e242, hx242_0⟩ := Kd.at_int (Kd.R_reads' HO_5.out).2.2 x9_6 p242 q242
                   cases e242
                   replace p242 := eq_true p242; replace q242 := eq_true q242; go_wp2
                   go_ret
                   exact ⟨by first | rfl | (simp [errW_none, errW_some] <;> rfl) | (simp only [← hji35, ← hji37]; first | rfl | (simp [errW_none, errW_some] <;> rfl)) | (simp [*, errW_none, errW_some] <;> rfl) | (simp [wrap64]; done) | (simp [*, wrap64]; done), belA⟩
                 rw [if_pos c62] at H; have c62b0 : ((rd x5_5 x9_6) == 1) = true := beq_iff_eq.mpr c62; have c62b1 : ((rd x5_5 x9_6) != 1) = false := bne_eq_false_iff_eq.mpr c62; clear c62; have H' := ak H; clear H; obtain ⟨Ao63, co63, eo63⟩ := Kd.R_slice HO_5.out; subst eo63; have p242 : 0 ≤ (x9_6 : Int) := odA; have q242 : x9_6 < (x5_5.length : Int) := odA; obtain ⟨ad242, e242, hx242_0⟩ := Kd.at_int (Kd.R_reads' HO_5.out).2.2 x9_6 p242 q242
                 cases e242
                 replace p242 := eq_true p242; replace q242 := eq_true q242; go_wp2
                 go_roundg k6
                 case measure => have := HJ1.out; have := HK2.out; have := HK3.out; have := HK4.out; have := HK5.out; have := HK6.out; omega
                 case rel => exact ⟨(wrap64 (x9_6 + 1)), eqA, H', ⟨xq45⟩, ⟨rA HO_5⟩, ⟨blkA⟩, ⟨belA⟩⟩
             rw [if_pos c43] at H; have c43b0 := decide_eq_true c43; clear c43
             by_cases c44 : 0 ≤ x7_5; rotate_left
             · rw [if_neg c44] at H; exact absurd H (by simp)
             rw [if_pos c44] at H; have c44b0 := decide_eq_true c44; clear c44
             by_cases c45 : ((rd_T93 l0_2 x7_5).f0) = x4_3; rotate_left
             · rw [if_neg c45] at H; have c45b0 : (((rd_T93 l0_2 x7_5).f0) == x4_3) = false := beq_eq_false_iff_ne.mpr c45; have c45b1 : (((rd_T93 l0_2 x7_5).f0) != x4_3) = true := bne_iff_ne.mpr c45; have H' := ak H; clear H; obtain ⟨_, _, _, _, _, _⟩ := cel3 BK225; have p237 : 0 ≤ (x7_5 : Int) := odA; have q237 : x7_5 < (l0_2.length : Int) := odA; obtain ⟨ad237, e237, hx237_0, hx237_1, hx237_2⟩ := at_T93 HR0_2.out x7_5 p237 q237
               cases e237
               try replace hx237_0 := cB HB hx237_0
               try replace hx237_1 := cB HB hx237_1
               try replace hx237_2 := cB HB hx237_2
               replace p237 := eq_true p237; replace q237 := eq_true q237; go_wp2
               go_roundg k5
               case measure => have := HJ1.out; have := HK2.out; have := HK3.out; have := HK4.out; have := HK5.out; omega
               case rel => exact ⟨(x5_5), (wrap64 (x7_5 + 1)), eqA, H', ⟨by have := HJ1.out; have := HK2.out; have := HK3.out; have := HK4.out; have := HK5.out; omega⟩, ⟨rA HO_5⟩, ⟨blkA⟩, ⟨belA⟩⟩
             rw [if_pos c45] at H; have c45b0 : (((rd_T93 l0_2 x7_5).f0) == x4_3) = true := beq_iff_eq.mpr c45; have c45b1 : (((rd_T93 l0_2 x7_5).f0) != x4_3) = false := bne_eq_false_iff_eq.mpr c45; clear c45; have H' := ak H; clear H; obtain ⟨_, _, _, _, _, _⟩ := cel3 BK225; have p237 : 0 ≤ (x7_5 : Int) := odA; have q237 : x7_5 < (l0_2.length : Int) := odA; obtain ⟨ad237, e237, hx237_0, hx237_1, hx237_2⟩ := at_T93 HR0_2.out x7_5 p237 q237
             cases e237
             try replace hx237_0 := cB HB hx237_0
             try replace hx237_1 := cB HB hx237_1
             try replace hx237_2 := cB HB hx237_2
             replace p237 := eq_true p237; replace q237 := eq_true q237; have p238 : 0 ≤ (x7_5 : Int) := odA; have q238 : x7_5 < (l0_2.length : Int) := odA; obtain ⟨ad238, e238, hx238_0, hx238_1, hx238_2⟩ := at_T93 HR0_2.out x7_5 p238 q238; obtain rfl : ad237 = ad238 := (by injection e238); try replace hx238_0 := cB HB hx238_0
             try replace hx238_1 := cB HB hx238_1
             try replace hx238_2 := cB HB hx238_2
             replace p238 := eq_true p238; replace q238 := eq_true q238; go_wp2
             go_loopg [8] k5 (fun kq v8 w' => ∃ (x5_6 : List Int) (x8_6 : Int), v8 = .int .i64 x8_6 ∧ Aside0 (spec_PlanOk.l4 kq x4_3 x5_6 x7_5 x8_6 a0_0 a0_1 l0_2 = some r) ∧ Aside0 (kq ≤ k5) ∧ Aside0 (Kd.R (Kd.int .i64) 3 w' w.heap.size (fun _ => True) u5 x5_6) ∧ Aside0 (w'.heap[gb225]? = some (.cells #[.int .i64 a0_0, .int .i64 a0_1, (.slice (some ad237) l0_2.length c0_2)] 26 (0, 0))) ∧ Aside0 (Below w.heap.size w w'))
             case atStart => exact ⟨(x5_5), ((rd_T93 l0_2 x7_5).f1), eqA, H', ⟨Nat.le_refl _⟩, ⟨rA HO_5⟩, ⟨blkA⟩, ⟨belA⟩⟩
             case round =>
              clear H'; obtain ⟨x5_6, x8_6, rfl, HA, HK6, HO_5, BK225, HB⟩ := hrel
              cases gk with
              | zero => exact absurd HA.out (by simp [spec_PlanOk.l4])
              | succ k6 =>
               have H := HA.out; clear HA; simp only [spec_PlanOk.l4] at H
               by_cases c47 : 0 ≤ x7_5; rotate_left
               · rw [if_neg c47] at H; exact absurd H (by simp)
               rw [if_pos c47] at H; have c47b0 := decide_eq_true c47; clear c47
               by_cases c48 : x7_5 < (l0_2.length : Int); rotate_left
               · rw [if_neg c48] at H; exact absurd H (by simp)
               rw [if_pos c48] at H; have c48b0 := decide_eq_true c48; clear c48
               by_cases c49 : x8_6 < ((rd_T93 l0_2 x7_5).f2); rotate_left
               · rw [if_neg c49] at H; have c49b0 := decide_eq_false c49; clear c49; have H' := ak H; clear H; obtain ⟨_, _, _, _, _, _⟩ := cel3 BK225; have p239 : 0 ≤ (x7_5 : Int) := odA; have q239 : x7_5 < (l0_2.length : Int) := odA; obtain ⟨ad239, e239, hx239_0, hx239_1, hx239_2⟩ := at_T93 HR0_2.out x7_5 p239 q239; obtain rfl : ad237 = ad239 := (by injection e239); try replace hx239_0 := cB HB hx239_0
                 try replace hx239_1 := cB HB hx239_1
                 try replace hx239_2 := cB HB hx239_2
                 replace p239 := eq_true p239; replace q239 := eq_true q239; go_wp2
                 go_roundg k6
                 case measure => have := HJ1.out; have := HK2.out; have := HK3.out; have := HK4.out; have := HK5.out; have := HK6.out; omega
                 case rel => exact ⟨(x5_6), (wrap64 (x7_5 + 1)), eqA, H', ⟨xq45⟩, ⟨rA HO_5⟩, ⟨blkA⟩, ⟨belA⟩⟩
               rw [if_pos c49] at H; have c49b0 := decide_eq_true c49; clear c49
               by_cases c50 : 0 ≤ x8_6; rotate_left
               · rw [if_neg c50] at H; exact absurd H (by simp)
               rw [if_pos c50] at H; have c50b0 := decide_eq_true c50; clear c50
               by_cases c51 : x8_6 < (x5_6.length : Int); rotate_left
               · rw [if_neg c51] at H; exact absurd H (by simp)
               rw [if_pos c51] at H; have c51b0 := decide_eq_true c51; clear c51; obtain ⟨y241, hyq⟩ : ∃ y_ : List Int, y_ = (x5_6.set (x8_6 : Int).toNat (wrap64 ((rd x5_6 x8_6) + 1))) := ⟨_, rfl⟩; replace H : (spec_PlanOk.l4 k6 x4_3 y241 x7_5 (wrap64 (x8_6 + 1)) a0_0 a0_1 l0_2) = some r := by first | (rw [hyq]; with_reducible exact H) | (have H2_ := (Option.bind_some _ _).symm.trans H; rw [hyq]; with_reducible exact H2_) | (have H2_ := (Option.bind_some _ _).symm.trans H; with_reducible exact H2_) | with_reducible exact H | (rw [hyq]; exact H) | exact H
               have Ny241 := ak hyq; clear hyq; have H' := ak H; clear H; obtain ⟨_, _, _, _, _, _⟩ := cel3 BK225; have p239 : 0 ≤ (x7_5 : Int) := odA; have q239 : x7_5 < (l0_2.length : Int) := odA; obtain ⟨ad239, e239, hx239_0, hx239_1, hx239_2⟩ := at_T93 HR0_2.out x7_5 p239 q239; obtain rfl : ad237 = ad239 := (by injection e239); try replace hx239_0 := cB HB hx239_0
               try replace hx239_1 := cB HB hx239_1
               try replace hx239_2 := cB HB hx239_2
               replace p239 := eq_true p239; replace q239 := eq_true q239; obtain ⟨Ao54, co54, eo54⟩ := Kd.R_slice HO_5.out; subst eo54; have p240 : 0 ≤ (x8_6 : Int) := odA; have q240 : x8_6 < (x5_6.length : Int) := odA; obtain ⟨ad240, e240, hx240_0⟩ := Kd.at_int (Kd.R_reads' HO_5.out).2.2 x8_6 p240 q240
               cases e240
               replace p240 := eq_true p240; replace q240 := eq_true q240; have p52 : 0 ≤ (x8_6 : Int) := odA; have q52 : (x8_6 : Int) < ((x5_6.length : Int) : Int) := odA; obtain ⟨go52, co52, eo52, gb52, gl52, cl52, HG52⟩ := Kd.R_form HO_5.out (by omega); (first | cases eo52 | (injection eo52 with ea_ en_ ec_; (first | subst ea_ | (injection ea_ with ea_; subst ea_)); subst ec_; clear en_))
               have GB52 := ak gb52; have GG52 := ak HG52; clear gb52 gl52 HG52; (first | simp only [add_plain] at hx240_0 | skip)
               obtain ⟨hx52_0, hf52_0⟩ := Kd.R_celln 0 HO_5.out (x8_6 : Int) p52 q52; replace p52 := eq_true p52; replace q52 := eq_true q52; have HP55 := Kd.R_putg HO_5.out (x8_6 : Int) (wrap64 ((rd x5_6 x8_6) + 1)); go_wp2_with (first | ((with_reducible refine gate_store (t := 3) (p := 115) rfl ?_); refine store_event (t := 3) (p := 115) (v := ?vo_w56) (w1 := (wr.setCell ⟨go52, (x8_6 : Int).toNat, none⟩ (.int .i64 (wrap64 ((rd x5_6 x8_6) + 1))))) ?hg ?ho ?hn ?hr ?_; (case ho => rfl); (case hg => rfl); (case hn => rfl); (case hr => exact xq5); intro w56 hw; have hg : wr.grownBy w56 (some go52) := (by rw [hw]; exact HP55.2); have hp_ : Kd.R (Kd.int .i64) 3 w56 w.heap.size (fun _ => True) (.slice (some ⟨go52, 0, none⟩) x5_6.length co54) y241 := (by rw [hw, Ny241.out]; exact HP55.1); clear HP55; replace BK225 := ak (blk_grown (g := gb225) (o := .cells #[.int .i64 a0_0, .int .i64 a0_1, .slice (some ad237) l0_2.length c0_2] 26 (0, 0)) blkA hg (Kd.R_ne HO_5.out BK225.out (by decide))); replace HO_5 := ak hp_; replace HB := ak ((by rw [hw]; exact below_set (HB.out) GB52.out : Below w.heap.size w w56)); clear hg hw hp_))
               go_roundg k6
               case measure => have := HJ1.out; have := HK2.out; have := HK3.out; have := HK4.out; have := HK5.out; have := HK6.out; omega
               case rel => exact ⟨(y241), (wrap64 (x8_6 + 1)), eqA, H', ⟨xq45⟩, ⟨rA HO_5⟩, ⟨blkA⟩, ⟨belA⟩⟩
     rw [if_pos c9] at H; have c9b0 := decide_eq_true c9; clear c9
     by_cases c10 : 0 ≤ x3_2; rotate_left
     · rw [if_neg c10] at H; exact absurd H (by simp)
     rw [if_pos c10] at H; have c10b0 := decide_eq_true c10; clear c10; replace H := Option.bind_eq_some_iff.mp H; obtain ⟨t228, A110, H⟩ := H; (try dsimp only at H); have A11 := ak A110; clear A110
     by_cases c12 : t228 = true; rotate_left
     · replace c12 := Bool.eq_false_iff.mpr c12; subst c12; have H1 : (some false) = some r := by rw [if_neg (show ¬ (false = true) by decide)] at H; exact H
       clear H; have H := H1; clear H1; obtain rfl := Option.some.inj H; obtain ⟨_, _, _, _, _, _⟩ := cel3 BK225; try go_wp2
       replace BK225 := ak (blk_drew BK225.out); replace HB := ak (below_drew1 HB.out); have p227 : 0 ≤ (x3_2 : Int) := odA; have q227 : x3_2 < (l0_2.length : Int) := odA; obtain ⟨ad227, e227, hx227_0, hx227_1, hx227_2⟩ := at_T93 HR0_2.out x3_2 p227 q227; have hw227_2 := hx227_2; have hw227_1 := hx227_1; have hw227_0 := hx227_0
       cases e227
       try replace hx227_0 := cB HB hx227_0
       try replace hx227_1 := cB HB hx227_1
       try replace hx227_2 := cB HB hx227_2
       replace p227 := eq_true p227; replace q227 := eq_true q227; refine start_ (n := 29) (S := fun w' => w'.cell? ⟨gb225, 0, none⟩ = some (.int .i64 a0_0) ∧ w'.cell? ⟨gb225, 1, none⟩ = some (.int .i64 a0_1) ∧ w'.cell? ⟨gb225, 2, none⟩ = some (.slice (some ad227) l0_2.length c0_2) ∧ w'.cell? (ad227.add ((x3_2).toNat * 3)) = some (.int .i64 ((rd_T93 l0_2 x3_2).f0)) ∧ w'.cell? ⟨(ad227.add ((x3_2).toNat * 3)).block, (ad227.add ((x3_2).toNat * 3)).off + 1, none⟩ = some (.int .i64 ((rd_T93 l0_2 x3_2).f1)) ∧ w'.cell? ⟨(ad227.add ((x3_2).toNat * 3)).block, (ad227.add ((x3_2).toNat * 3)).off + 2, none⟩ = some (.int .i64 ((rd_T93 l0_2 x3_2).f2))) (ds := []) #[false, false, false, false, false, false, false, false, false, false, false, false, false, false, false, false, false, false, false, false, false, false, false, false, false, false, false, false, false] (by kernel_rfl) rfl rfl ⟨(blk_cell BK225.out 0).trans rfl, (blk_cell BK225.out 1).trans rfl, (blk_cell BK225.out 2).trans rfl, ((HB.out.cell (World.block_lt_of_cell? w _ hw227_0)).trans hw227_0), ((HB.out.cell (World.block_lt_of_cell? w _ hw227_1)).trans hw227_1), ((HB.out.cell (World.block_lt_of_cell? w _ hw227_2)).trans hw227_2)⟩ (fun hHeld => ?_); refine with_tabW spec_PlanOk.tab6 spec_PlanOk.bits6 (fun HT_ HW_ => ?_)
       generalize wr.drew = w28 at BK225 HB hx227_0 hx227_1 hx227_2 hHeld ⊢
       refine pure_ (i := 0) (N := some 29) (v := ?_) (a' := ?_) #[true, false, false, false, false, false, false, false, false, false, false, false, false, false, false, false, false, false, false, false, false, false, false, false, false, false, false, false, false] rfl rfl (any_of HT_.out (by kernel_rfl)) (fun _ _ _ h => h) (Or.inl ⟨by rfl, ?_⟩) ?_ ?_
       rotate_left
       · intro w'; go_simp
         with_reducible rfl
       rotate_left
       · simp only [Act.put, sa, sb, sc, i64_w, i32_w]
         rfl
       refine pure_ (i := 2) (N := some 31) (v := ?_) (a' := ?_) #[true, false, true, false, false, false, false, false, false, false, false, false, false, false, false, false, false, false, false, false, false, false, false, false, false, false, false, false, false] rfl rfl (any_of HT_.out (by kernel_rfl)) (fun _ _ _ h => h) (Or.inl ⟨by rfl, ?_⟩) ?_ ?_
       rotate_left
       · intro w'; go_simp
         with_reducible rfl
       rotate_left
       · simp only [Act.put, sa, sb, sc, i64_w, i32_w]
         rfl
       refine pure_ (i := 4) (N := some 33) (v := ?_) (a' := ?_) #[true, false, true, false, true, false, false, false, false, false, false, false, false, false, false, false, false, false, false, false, false, false, false, false, false, false, false, false, false] rfl rfl (any_of HT_.out (by kernel_rfl)) (fun _ _ _ h => h) (Or.inl ⟨by rfl, ?_⟩) ?_ ?_
       rotate_left
       · intro w'; go_simp
         with_reducible rfl
       rotate_left
       · simp only [Act.put, sa, sb, sc, i64_w, i32_w]
         rfl
       refine take_ (i := 1) (N := some 30) (v := ?_) (a' := ?_) #[true, true, true, false, true, false, false, false, false, false, false, false, false, false, false, false, false, false, false, false, false, false, false, false, false, false, false, false, false] rfl rfl (take_ofW HT_.out HW_.out (by kernel_rfl)) (fun _ _ _ h => h) (Or.inl ⟨by rfl, ?_⟩) hHeld ?_ ?_
       rotate_left
       · rintro w' ⟨s0, s1, s2, s3, s4, s5⟩
         go_simp
         with_reducible rfl
       rotate_left
       · simp only [Act.put, sa, sb, sc, i64_w, i32_w]
         rfl
       refine take_ (i := 3) (N := some 32) (v := ?_) (a' := ?_) #[true, true, true, true, true, false, false, false, false, false, false, false, false, false, false, false, false, false, false, false, false, false, false, false, false, false, false, false, false] rfl rfl (take_ofW HT_.out HW_.out (by kernel_rfl)) (fun _ _ _ h => h) (Or.inl ⟨by rfl, ?_⟩) hHeld ?_ ?_
       rotate_left
       · rintro w' ⟨s0, s1, s2, s3, s4, s5⟩
         go_simp
         with_reducible rfl
       rotate_left
       · simp only [Act.put, sa, sb, sc, i64_w, i32_w]
         rfl
       refine pure_ (i := 5) (N := some 34) (v := ?_) (a' := ?_) #[true, true, true, true, true, true, false, false, false, false, false, false, false, false, false, false, false, false, false, false, false, false, false, false, false, false, false, false, false] rfl rfl (any_of HT_.out (by kernel_rfl)) (fun _ _ _ h => h) (Or.inl ⟨by rfl, ?_⟩) ?_ ?_
       rotate_left
       · intro w'; go_simp
         with_reducible rfl
       rotate_left
       · simp only [Act.put, sa, sb, sc, i64_w, i32_w]
         rfl
       refine take_ (i := 6) (N := some 35) (v := ?_) (a' := ?_) #[true, true, true, true, true, true, true, false, false, false, false, false, false, false, false, false, false, false, false, false, false, false, false, false, false, false, false, false, false] rfl rfl (take_ofW HT_.out HW_.out (by kernel_rfl)) (fun _ _ _ h => h) (Or.inl ⟨by rfl, ?_⟩) hHeld ?_ ?_
       rotate_left
       · rintro w' ⟨s0, s1, s2, s3, s4, s5⟩
         go_simp
         with_reducible rfl
       rotate_left
       · simp only [Act.put, sa, sb, sc, i64_w, i32_w]
         rfl
       refine one_ (i := 7) (N := some 36) #[true, true, true, true, true, true, true, true, false, false, false, false, false, false, false, false, false, false, false, false, false, false, false, false, false, false, false, false, false] rfl rfl (one_of HT_.out (by kernel_rfl)) (by decide) (fun K hK => ?_)
       refine goes_ Try.func102 (by kernel_rfl) rfl #[.int .i64 a0_1, .agg #[.int .i64 ((rd_T93 l0_2 x3_2).f0), .int .i64 ((rd_T93 l0_2 x3_2).f1), .int .i64 ((rd_T93 l0_2 x3_2).f2)]] (by rfl) rfl rfl xq24 ?_
       with_reducible refine (spec_l09Run.calls a0_1 ((rd_T93 l0_2 x3_2).f0) ((rd_T93 l0_2 x3_2).f1) ((rd_T93 l0_2 x3_2).f2) false _ A11.out).mono ?_
       rintro e w29 ⟨rfl, hb⟩
       refine ⟨_, rfl, ?_⟩
       replace BK225 := bB BK225 hb; replace HB := bS hb; (try clear hb); refine hK.out _ _ ⟨(blk_cell BK225.out 0).trans rfl, (blk_cell BK225.out 1).trans rfl, (blk_cell BK225.out 2).trans rfl, ((HB.out.cell (World.block_lt_of_cell? w _ hw227_0)).trans hw227_0), ((HB.out.cell (World.block_lt_of_cell? w _ hw227_1)).trans hw227_1), ((HB.out.cell (World.block_lt_of_cell? w _ hw227_2)).trans hw227_2)⟩ (fun hHeld => ?_)
       clear hK K; refine norm_ (a' := ?_) ?_ ?_
       rotate_left
       · show Act.put _ (some 36) _ = _
         simp only [Act.put, sa, sb, sc, i64_w, i32_w]
         rfl
       refine pure_ (i := 8) (N := some 37) (v := ?_) (a' := ?_) #[true, true, true, true, true, true, true, true, true, false, false, false, false, false, false, false, false, false, false, false, false, false, false, false, false, false, false, false, false] rfl rfl (any_of HT_.out (by kernel_rfl)) (fun _ _ _ h => h) (Or.inl ⟨by rfl, ?_⟩) ?_ ?_
       rotate_left
       · intro w'; go_simp
         with_reducible rfl
       rotate_left
       · simp only [Act.put, sa, sb, sc, i64_w, i32_w]
         rfl
       refine pure_ (i := 9) (N := some 38) (v := ?_) (a' := ?_) #[true, true, true, true, true, true, true, true, true, true, false, false, false, false, false, false, false, false, false, false, false, false, false, false, false, false, false, false, false] rfl rfl (any_of HT_.out (by kernel_rfl)) (fun _ _ _ h => h) (Or.inl ⟨by rfl, ?_⟩) ?_ ?_
       rotate_left
       · intro w'; go_simp
         with_reducible rfl
       rotate_left
       · simp only [Act.put, sa, sb, sc, i64_w, i32_w]
         rfl
       refine pure_ (i := 10) (N := some 39) (v := undef) (a' := ?_) #[true, true, true, true, true, true, true, true, true, true, true, false, false, false, false, false, false, false, false, false, false, false, false, false, false, false, false, false, false] rfl rfl (any_of HT_.out (by kernel_rfl)) (fun _ _ _ h => h) (Or.inr ⟨by rfl, rfl⟩) ?_ ?_
       rotate_left
       · simp only [Act.put, sa, sb, sc, i64_w, i32_w]
         rfl
       refine pure_ (i := 11) (N := some 40) (v := undef) (a' := ?_) #[true, true, true, true, true, true, true, true, true, true, true, true, false, false, false, false, false, false, false, false, false, false, false, false, false, false, false, false, false] rfl rfl (any_of HT_.out (by kernel_rfl)) (fun _ _ _ h => h) (Or.inr ⟨by rfl, rfl⟩) ?_ ?_
       rotate_left
       · simp only [Act.put, sa, sb, sc, i64_w, i32_w]
         rfl
       refine pure_ (i := 12) (N := some 41) (v := undef) (a' := ?_) #[true, true, true, true, true, true, true, true, true, true, true, true, true, false, false, false, false, false, false, false, false, false, false, false, false, false, false, false, false] rfl rfl (any_of HT_.out (by kernel_rfl)) (fun _ _ _ h => h) (Or.inr ⟨by rfl, rfl⟩) ?_ ?_
       rotate_left
       · simp only [Act.put, sa, sb, sc, i64_w, i32_w]
         rfl
       refine pure_ (i := 13) (N := some 42) (v := undef) (a' := ?_) #[true, true, true, true, true, true, true, true, true, true, true, true, true, true, false, false, false, false, false, false, false, false, false, false, false, false, false, false, false] rfl rfl (any_of HT_.out (by kernel_rfl)) (fun _ _ _ h => h) (Or.inr ⟨by rfl, rfl⟩) ?_ ?_
       rotate_left
       · simp only [Act.put, sa, sb, sc, i64_w, i32_w]
         rfl
       refine pure_ (i := 14) (N := some 43) (v := undef) (a' := ?_) #[true, true, true, true, true, true, true, true, true, true, true, true, true, true, true, false, false, false, false, false, false, false, false, false, false, false, false, false, false] rfl rfl (any_of HT_.out (by kernel_rfl)) (fun _ _ _ h => h) (Or.inr ⟨by rfl, rfl⟩) ?_ ?_
       rotate_left
       · simp only [Act.put, sa, sb, sc, i64_w, i32_w]
         rfl
       refine pure_ (i := 15) (N := some 44) (v := undef) (a' := ?_) #[true, true, true, true, true, true, true, true, true, true, true, true, true, true, true, true, false, false, false, false, false, false, false, false, false, false, false, false, false] rfl rfl (any_of HT_.out (by kernel_rfl)) (fun _ _ _ h => h) (Or.inr ⟨by rfl, rfl⟩) ?_ ?_
       rotate_left
       · simp only [Act.put, sa, sb, sc, i64_w, i32_w]
         rfl
       refine pure_ (i := 16) (N := some 45) (v := undef) (a' := ?_) #[true, true, true, true, true, true, true, true, true, true, true, true, true, true, true, true, true, false, false, false, false, false, false, false, false, false, false, false, false] rfl rfl (any_of HT_.out (by kernel_rfl)) (fun _ _ _ h => h) (Or.inr ⟨by rfl, rfl⟩) ?_ ?_
       rotate_left
       · simp only [Act.put, sa, sb, sc, i64_w, i32_w]
         rfl
       refine pure_ (i := 17) (N := some 46) (v := undef) (a' := ?_) #[true, true, true, true, true, true, true, true, true, true, true, true, true, true, true, true, true, true, false, false, false, false, false, false, false, false, false, false, false] rfl rfl (any_of HT_.out (by kernel_rfl)) (fun _ _ _ h => h) (Or.inr ⟨by rfl, rfl⟩) ?_ ?_
       rotate_left
       · simp only [Act.put, sa, sb, sc, i64_w, i32_w]
         rfl
       refine pure_ (i := 18) (N := some 47) (v := undef) (a' := ?_) #[true, true, true, true, true, true, true, true, true, true, true, true, true, true, true, true, true, true, true, false, false, false, false, false, false, false, false, false, false] rfl rfl (any_of HT_.out (by kernel_rfl)) (fun _ _ _ h => h) (Or.inr ⟨by rfl, rfl⟩) ?_ ?_
       rotate_left
       · simp only [Act.put, sa, sb, sc, i64_w, i32_w]
         rfl
       refine pure_ (i := 19) (N := some 48) (v := undef) (a' := ?_) #[true, true, true, true, true, true, true, true, true, true, true, true, true, true, true, true, true, true, true, true, false, false, false, false, false, false, false, false, false] rfl rfl (any_of HT_.out (by kernel_rfl)) (fun _ _ _ h => h) (Or.inr ⟨by rfl, rfl⟩) ?_ ?_
       rotate_left
       · simp only [Act.put, sa, sb, sc, i64_w, i32_w]
         rfl
       refine pure_ (i := 20) (N := some 49) (v := undef) (a' := ?_) #[true, true, true, true, true, true, true, true, true, true, true, true, true, true, true, true, true, true, true, true, true, false, false, false, false, false, false, false, false] rfl rfl (any_of HT_.out (by kernel_rfl)) (fun _ _ _ h => h) (Or.inr ⟨by rfl, rfl⟩) ?_ ?_
       rotate_left
       · simp only [Act.put, sa, sb, sc, i64_w, i32_w]
         rfl
       refine pure_ (i := 21) (N := some 50) (v := undef) (a' := ?_) #[true, true, true, true, true, true, true, true, true, true, true, true, true, true, true, true, true, true, true, true, true, true, false, false, false, false, false, false, false] rfl rfl (any_of HT_.out (by kernel_rfl)) (fun _ _ _ h => h) (Or.inr ⟨by rfl, rfl⟩) ?_ ?_
       rotate_left
       · simp only [Act.put, sa, sb, sc, i64_w, i32_w]
         rfl
       refine pure_ (i := 22) (N := some 51) (v := undef) (a' := ?_) #[true, true, true, true, true, true, true, true, true, true, true, true, true, true, true, true, true, true, true, true, true, true, true, false, false, false, false, false, false] rfl rfl (any_of HT_.out (by kernel_rfl)) (fun _ _ _ h => h) (Or.inr ⟨by rfl, rfl⟩) ?_ ?_
       rotate_left
       · simp only [Act.put, sa, sb, sc, i64_w, i32_w]
         rfl
       refine pure_ (i := 23) (N := some 52) (v := undef) (a' := ?_) #[true, true, true, true, true, true, true, true, true, true, true, true, true, true, true, true, true, true, true, true, true, true, true, true, false, false, false, false, false] rfl rfl (any_of HT_.out (by kernel_rfl)) (fun _ _ _ h => h) (Or.inr ⟨by rfl, rfl⟩) ?_ ?_
       rotate_left
       · simp only [Act.put, sa, sb, sc, i64_w, i32_w]
         rfl
       refine pure_ (i := 24) (N := some 53) (v := undef) (a' := ?_) #[true, true, true, true, true, true, true, true, true, true, true, true, true, true, true, true, true, true, true, true, true, true, true, true, true, false, false, false, false] rfl rfl (any_of HT_.out (by kernel_rfl)) (fun _ _ _ h => h) (Or.inr ⟨by rfl, rfl⟩) ?_ ?_
       rotate_left
       · simp only [Act.put, sa, sb, sc, i64_w, i32_w]
         rfl
       refine pure_ (i := 25) (N := some 54) (v := undef) (a' := ?_) #[true, true, true, true, true, true, true, true, true, true, true, true, true, true, true, true, true, true, true, true, true, true, true, true, true, true, false, false, false] rfl rfl (any_of HT_.out (by kernel_rfl)) (fun _ _ _ h => h) (Or.inr ⟨by rfl, rfl⟩) ?_ ?_
       rotate_left
       · simp only [Act.put, sa, sb, sc, i64_w, i32_w]
         rfl
       refine pure_ (i := 26) (N := some 55) (v := undef) (a' := ?_) #[true, true, true, true, true, true, true, true, true, true, true, true, true, true, true, true, true, true, true, true, true, true, true, true, true, true, true, false, false] rfl rfl (any_of HT_.out (by kernel_rfl)) (fun _ _ _ h => h) (Or.inr ⟨by rfl, rfl⟩) ?_ ?_
       rotate_left
       · simp only [Act.put, sa, sb, sc, i64_w, i32_w]
         rfl
       refine pure_ (i := 27) (N := some 56) (v := undef) (a' := ?_) #[true, true, true, true, true, true, true, true, true, true, true, true, true, true, true, true, true, true, true, true, true, true, true, true, true, true, true, true, false] rfl rfl (any_of HT_.out (by kernel_rfl)) (fun _ _ _ h => h) (Or.inr ⟨by rfl, rfl⟩) ?_ ?_
       rotate_left
       · simp only [Act.put, sa, sb, sc, i64_w, i32_w]
         rfl
       refine pure_ (i := 28) (N := some 57) (v := ?_) (a' := ?_) #[true, true, true, true, true, true, true, true, true, true, true, true, true, true, true, true, true, true, true, true, true, true, true, true, true, true, true, true, true] rfl rfl (any_of HT_.out (by kernel_rfl)) (fun _ _ _ h => h) (Or.inl ⟨by rfl, ?_⟩) ?_ ?_
       rotate_left
       · intro w'; go_simp
         with_reducible rfl
       rotate_left
       · simp only [Act.put, sa, sb, sc, i64_w, i32_w]
         rfl
       refine done_ (done_of HT_.out (by kernel_rfl)) ?_
       try go_wp2
       go_ret
       exact ⟨xq2, belA⟩
     subst c12; have H1 : (if x3_2 > 0 then (if 0 ≤ (wrap64 (x3_2 - 1)) then (if (wrap64 (x3_2 - 1)) < (l0_2.length : Int) then (if ((rd_T93 l0_2 (wrap64 (x3_2 - 1))).f0) > ((rd_T93 l0_2 x3_2).f0) then (some false) else (spec_PlanOk.l0 k2 (wrap64 (x3_2 + 1)) a0_0 a0_1 l0_2)) else (none)) else (none)) else (spec_PlanOk.l0 k2 (wrap64 (x3_2 + 1)) a0_0 a0_1 l0_2)) = some r := by rw [if_pos rfl] at H; exact H
     clear H; have H := H1; clear H1
     by_cases c13 : x3_2 > 0; rotate_left
     · rw [if_neg c13] at H; have c13b0 : decide (0 < x3_2) = false := decide_eq_false c13; clear c13; have H' := ak H; clear H; obtain ⟨_, _, _, _, _, _⟩ := cel3 BK225; try go_wp2
       replace BK225 := ak (blk_drew BK225.out); replace HB := ak (below_drew1 HB.out); have p227 : 0 ≤ (x3_2 : Int) := odA; have q227 : x3_2 < (l0_2.length : Int) := odA; obtain ⟨ad227, e227, hx227_0, hx227_1, hx227_2⟩ := at_T93 HR0_2.out x3_2 p227 q227; have hw227_2 := hx227_2; have hw227_1 := hx227_1; have hw227_0 := hx227_0
       cases e227
       try replace hx227_0 := cB HB hx227_0
       try replace hx227_1 := cB HB hx227_1
       try replace hx227_2 := cB HB hx227_2
       replace p227 := eq_true p227; replace q227 := eq_true q227; refine start_ (n := 29) (S := fun w' => w'.cell? ⟨gb225, 0, none⟩ = some (.int .i64 a0_0) ∧ w'.cell? ⟨gb225, 1, none⟩ = some (.int .i64 a0_1) ∧ w'.cell? ⟨gb225, 2, none⟩ = some (.slice (some ad227) l0_2.length c0_2) ∧ w'.cell? (ad227.add ((x3_2).toNat * 3)) = some (.int .i64 ((rd_T93 l0_2 x3_2).f0)) ∧ w'.cell? ⟨(ad227.add ((x3_2).toNat * 3)).block, (ad227.add ((x3_2).toNat * 3)).off + 1, none⟩ = some (.int .i64 ((rd_T93 l0_2 x3_2).f1)) ∧ w'.cell? ⟨(ad227.add ((x3_2).toNat * 3)).block, (ad227.add ((x3_2).toNat * 3)).off + 2, none⟩ = some (.int .i64 ((rd_T93 l0_2 x3_2).f2))) (ds := []) #[false, false, false, false, false, false, false, false, false, false, false, false, false, false, false, false, false, false, false, false, false, false, false, false, false, false, false, false, false] (by kernel_rfl) rfl rfl ⟨(blk_cell BK225.out 0).trans rfl, (blk_cell BK225.out 1).trans rfl, (blk_cell BK225.out 2).trans rfl, ((HB.out.cell (World.block_lt_of_cell? w _ hw227_0)).trans hw227_0), ((HB.out.cell (World.block_lt_of_cell? w _ hw227_1)).trans hw227_1), ((HB.out.cell (World.block_lt_of_cell? w _ hw227_2)).trans hw227_2)⟩ (fun hHeld => ?_); refine with_tabW spec_PlanOk.tab6 spec_PlanOk.bits6 (fun HT_ HW_ => ?_)
       generalize wr.drew = w25 at BK225 HB hx227_0 hx227_1 hx227_2 hHeld ⊢
       refine pure_ (i := 0) (N := some 29) (v := ?_) (a' := ?_) #[true, false, false, false, false, false, false, false, false, false, false, false, false, false, false, false, false, false, false, false, false, false, false, false, false, false, false, false, false] rfl rfl (any_of HT_.out (by kernel_rfl)) (fun _ _ _ h => h) (Or.inl ⟨by rfl, ?_⟩) ?_ ?_
       rotate_left
       · intro w'; go_simp
         with_reducible rfl
       rotate_left
       · simp only [Act.put, sa, sb, sc, i64_w, i32_w]
         rfl
       refine pure_ (i := 2) (N := some 31) (v := ?_) (a' := ?_) #[true, false, true, false, false, false, false, false, false, false, false, false, false, false, false, false, false, false, false, false, false, false, false, false, false, false, false, false, false] rfl rfl (any_of HT_.out (by kernel_rfl)) (fun _ _ _ h => h) (Or.inl ⟨by rfl, ?_⟩) ?_ ?_
       rotate_left
       · intro w'; go_simp
         with_reducible rfl
       rotate_left
       · simp only [Act.put, sa, sb, sc, i64_w, i32_w]
         rfl
       refine pure_ (i := 4) (N := some 33) (v := ?_) (a' := ?_) #[true, false, true, false, true, false, false, false, false, false, false, false, false, false, false, false, false, false, false, false, false, false, false, false, false, false, false, false, false] rfl rfl (any_of HT_.out (by kernel_rfl)) (fun _ _ _ h => h) (Or.inl ⟨by rfl, ?_⟩) ?_ ?_
       rotate_left
       · intro w'; go_simp
         with_reducible rfl
       rotate_left
       · simp only [Act.put, sa, sb, sc, i64_w, i32_w]
         rfl
       refine take_ (i := 1) (N := some 30) (v := ?_) (a' := ?_) #[true, true, true, false, true, false, false, false, false, false, false, false, false, false, false, false, false, false, false, false, false, false, false, false, false, false, false, false, false] rfl rfl (take_ofW HT_.out HW_.out (by kernel_rfl)) (fun _ _ _ h => h) (Or.inl ⟨by rfl, ?_⟩) hHeld ?_ ?_
       rotate_left
       · rintro w' ⟨s0, s1, s2, s3, s4, s5⟩
         go_simp
         with_reducible rfl
       rotate_left
       · simp only [Act.put, sa, sb, sc, i64_w, i32_w]
         rfl
       refine take_ (i := 3) (N := some 32) (v := ?_) (a' := ?_) #[true, true, true, true, true, false, false, false, false, false, false, false, false, false, false, false, false, false, false, false, false, false, false, false, false, false, false, false, false] rfl rfl (take_ofW HT_.out HW_.out (by kernel_rfl)) (fun _ _ _ h => h) (Or.inl ⟨by rfl, ?_⟩) hHeld ?_ ?_
       rotate_left
       · rintro w' ⟨s0, s1, s2, s3, s4, s5⟩
         go_simp
         with_reducible rfl
       rotate_left
       · simp only [Act.put, sa, sb, sc, i64_w, i32_w]
         rfl
       refine pure_ (i := 5) (N := some 34) (v := ?_) (a' := ?_) #[true, true, true, true, true, true, false, false, false, false, false, false, false, false, false, false, false, false, false, false, false, false, false, false, false, false, false, false, false] rfl rfl (any_of HT_.out (by kernel_rfl)) (fun _ _ _ h => h) (Or.inl ⟨by rfl, ?_⟩) ?_ ?_
       rotate_left
       · intro w'; go_simp
         with_reducible rfl
       rotate_left
       · simp only [Act.put, sa, sb, sc, i64_w, i32_w]
         rfl
       refine take_ (i := 6) (N := some 35) (v := ?_) (a' := ?_) #[true, true, true, true, true, true, true, false, false, false, false, false, false, false, false, false, false, false, false, false, false, false, false, false, false, false, false, false, false] rfl rfl (take_ofW HT_.out HW_.out (by kernel_rfl)) (fun _ _ _ h => h) (Or.inl ⟨by rfl, ?_⟩) hHeld ?_ ?_
       rotate_left
       · rintro w' ⟨s0, s1, s2, s3, s4, s5⟩
         go_simp
         with_reducible rfl
       rotate_left
       · simp only [Act.put, sa, sb, sc, i64_w, i32_w]
         rfl
       refine one_ (i := 7) (N := some 36) #[true, true, true, true, true, true, true, true, false, false, false, false, false, false, false, false, false, false, false, false, false, false, false, false, false, false, false, false, false] rfl rfl (one_of HT_.out (by kernel_rfl)) (by decide) (fun K hK => ?_)
       refine goes_ Try.func102 (by kernel_rfl) rfl #[.int .i64 a0_1, .agg #[.int .i64 ((rd_T93 l0_2 x3_2).f0), .int .i64 ((rd_T93 l0_2 x3_2).f1), .int .i64 ((rd_T93 l0_2 x3_2).f2)]] (by rfl) rfl rfl xq24 ?_
       with_reducible refine (spec_l09Run.calls a0_1 ((rd_T93 l0_2 x3_2).f0) ((rd_T93 l0_2 x3_2).f1) ((rd_T93 l0_2 x3_2).f2) true _ A11.out).mono ?_
       rintro e w26 ⟨rfl, hb⟩
       refine ⟨_, rfl, ?_⟩
       replace BK225 := bB BK225 hb; replace HB := bS hb; (try clear hb); refine hK.out _ _ ⟨(blk_cell BK225.out 0).trans rfl, (blk_cell BK225.out 1).trans rfl, (blk_cell BK225.out 2).trans rfl, ((HB.out.cell (World.block_lt_of_cell? w _ hw227_0)).trans hw227_0), ((HB.out.cell (World.block_lt_of_cell? w _ hw227_1)).trans hw227_1), ((HB.out.cell (World.block_lt_of_cell? w _ hw227_2)).trans hw227_2)⟩ (fun hHeld => ?_)
       clear hK K; refine norm_ (a' := ?_) ?_ ?_
       rotate_left
       · show Act.put _ (some 36) _ = _
         simp only [Act.put, sa, sb, sc, i64_w, i32_w]
         rfl
       refine pure_ (i := 8) (N := some 37) (v := ?_) (a' := ?_) #[true, true, true, true, true, true, true, true, true, false, false, false, false, false, false, false, false, false, false, false, false, false, false, false, false, false, false, false, false] rfl rfl (any_of HT_.out (by kernel_rfl)) (fun _ _ _ h => h) (Or.inl ⟨by rfl, ?_⟩) ?_ ?_
       rotate_left
       · intro w'; go_simp
         with_reducible rfl
       rotate_left
       · simp only [Act.put, sa, sb, sc, i64_w, i32_w]
         rfl
       refine pure_ (i := 9) (N := some 38) (v := ?_) (a' := ?_) #[true, true, true, true, true, true, true, true, true, true, false, false, false, false, false, false, false, false, false, false, false, false, false, false, false, false, false, false, false] rfl rfl (any_of HT_.out (by kernel_rfl)) (fun _ _ _ h => h) (Or.inl ⟨by rfl, ?_⟩) ?_ ?_
       rotate_left
       · intro w'; go_simp
         with_reducible rfl
       rotate_left
       · simp only [Act.put, sa, sb, sc, i64_w, i32_w]
         rfl
       refine pure_ (i := 10) (N := some 39) (v := ?_) (a' := ?_) #[true, true, true, true, true, true, true, true, true, true, true, false, false, false, false, false, false, false, false, false, false, false, false, false, false, false, false, false, false] rfl rfl (any_of HT_.out (by kernel_rfl)) (fun _ _ _ h => h) (Or.inl ⟨by rfl, ?_⟩) ?_ ?_
       rotate_left
       · intro w'; go_simp
         with_reducible rfl
       rotate_left
       · simp only [Act.put, sa, sb, sc, i64_w, i32_w]
         rfl
       refine pure_ (i := 11) (N := some 40) (v := ?_) (a' := ?_) #[true, true, true, true, true, true, true, true, true, true, true, true, false, false, false, false, false, false, false, false, false, false, false, false, false, false, false, false, false] rfl rfl (any_of HT_.out (by kernel_rfl)) (fun _ _ _ h => h) (Or.inl ⟨by rfl, ?_⟩) ?_ ?_
       rotate_left
       · intro w'; go_simp
         with_reducible rfl
       rotate_left
       · simp only [Act.put, sa, sb, sc, i64_w, i32_w]
         rfl
       refine pure_ (i := 12) (N := some 41) (v := ?_) (a' := ?_) #[true, true, true, true, true, true, true, true, true, true, true, true, true, false, false, false, false, false, false, false, false, false, false, false, false, false, false, false, false] rfl rfl (any_of HT_.out (by kernel_rfl)) (fun _ _ _ h => h) (Or.inl ⟨by rfl, ?_⟩) ?_ ?_
       rotate_left
       · intro w'; go_simp
         with_reducible rfl
       rotate_left
       · simp only [Act.put, sa, sb, sc, i64_w, i32_w]
         rfl
       refine pure_ (i := 13) (N := some 42) (v := undef) (a' := ?_) #[true, true, true, true, true, true, true, true, true, true, true, true, true, true, false, false, false, false, false, false, false, false, false, false, false, false, false, false, false] rfl rfl (any_of HT_.out (by kernel_rfl)) (fun _ _ _ h => h) (Or.inr ⟨by rfl, rfl⟩) ?_ ?_
       rotate_left
       · simp only [Act.put, sa, sb, sc, i64_w, i32_w]
         rfl
       refine pure_ (i := 14) (N := some 43) (v := undef) (a' := ?_) #[true, true, true, true, true, true, true, true, true, true, true, true, true, true, true, false, false, false, false, false, false, false, false, false, false, false, false, false, false] rfl rfl (any_of HT_.out (by kernel_rfl)) (fun _ _ _ h => h) (Or.inr ⟨by rfl, rfl⟩) ?_ ?_
       rotate_left
       · simp only [Act.put, sa, sb, sc, i64_w, i32_w]
         rfl
       refine pure_ (i := 15) (N := some 44) (v := undef) (a' := ?_) #[true, true, true, true, true, true, true, true, true, true, true, true, true, true, true, true, false, false, false, false, false, false, false, false, false, false, false, false, false] rfl rfl (any_of HT_.out (by kernel_rfl)) (fun _ _ _ h => h) (Or.inr ⟨by rfl, rfl⟩) ?_ ?_
       rotate_left
       · simp only [Act.put, sa, sb, sc, i64_w, i32_w]
         rfl
       refine pure_ (i := 16) (N := some 45) (v := undef) (a' := ?_) #[true, true, true, true, true, true, true, true, true, true, true, true, true, true, true, true, true, false, false, false, false, false, false, false, false, false, false, false, false] rfl rfl (any_of HT_.out (by kernel_rfl)) (fun _ _ _ h => h) (Or.inr ⟨by rfl, rfl⟩) ?_ ?_
       rotate_left
       · simp only [Act.put, sa, sb, sc, i64_w, i32_w]
         rfl
       refine pure_ (i := 17) (N := some 46) (v := undef) (a' := ?_) #[true, true, true, true, true, true, true, true, true, true, true, true, true, true, true, true, true, true, false, false, false, false, false, false, false, false, false, false, false] rfl rfl (any_of HT_.out (by kernel_rfl)) (fun _ _ _ h => h) (Or.inr ⟨by rfl, rfl⟩) ?_ ?_
       rotate_left
       · simp only [Act.put, sa, sb, sc, i64_w, i32_w]
         rfl
       refine pure_ (i := 18) (N := some 47) (v := undef) (a' := ?_) #[true, true, true, true, true, true, true, true, true, true, true, true, true, true, true, true, true, true, true, false, false, false, false, false, false, false, false, false, false] rfl rfl (any_of HT_.out (by kernel_rfl)) (fun _ _ _ h => h) (Or.inr ⟨by rfl, rfl⟩) ?_ ?_
       rotate_left
       · simp only [Act.put, sa, sb, sc, i64_w, i32_w]
         rfl
       refine pure_ (i := 19) (N := some 48) (v := undef) (a' := ?_) #[true, true, true, true, true, true, true, true, true, true, true, true, true, true, true, true, true, true, true, true, false, false, false, false, false, false, false, false, false] rfl rfl (any_of HT_.out (by kernel_rfl)) (fun _ _ _ h => h) (Or.inr ⟨by rfl, rfl⟩) ?_ ?_
       rotate_left
       · simp only [Act.put, sa, sb, sc, i64_w, i32_w]
         rfl
       refine pure_ (i := 20) (N := some 49) (v := undef) (a' := ?_) #[true, true, true, true, true, true, true, true, true, true, true, true, true, true, true, true, true, true, true, true, true, false, false, false, false, false, false, false, false] rfl rfl (any_of HT_.out (by kernel_rfl)) (fun _ _ _ h => h) (Or.inr ⟨by rfl, rfl⟩) ?_ ?_
       rotate_left
       · simp only [Act.put, sa, sb, sc, i64_w, i32_w]
         rfl
       refine pure_ (i := 21) (N := some 50) (v := undef) (a' := ?_) #[true, true, true, true, true, true, true, true, true, true, true, true, true, true, true, true, true, true, true, true, true, true, false, false, false, false, false, false, false] rfl rfl (any_of HT_.out (by kernel_rfl)) (fun _ _ _ h => h) (Or.inr ⟨by rfl, rfl⟩) ?_ ?_
       rotate_left
       · simp only [Act.put, sa, sb, sc, i64_w, i32_w]
         rfl
       refine pure_ (i := 22) (N := some 51) (v := undef) (a' := ?_) #[true, true, true, true, true, true, true, true, true, true, true, true, true, true, true, true, true, true, true, true, true, true, true, false, false, false, false, false, false] rfl rfl (any_of HT_.out (by kernel_rfl)) (fun _ _ _ h => h) (Or.inr ⟨by rfl, rfl⟩) ?_ ?_
       rotate_left
       · simp only [Act.put, sa, sb, sc, i64_w, i32_w]
         rfl
       refine pure_ (i := 23) (N := some 52) (v := undef) (a' := ?_) #[true, true, true, true, true, true, true, true, true, true, true, true, true, true, true, true, true, true, true, true, true, true, true, true, false, false, false, false, false] rfl rfl (any_of HT_.out (by kernel_rfl)) (fun _ _ _ h => h) (Or.inr ⟨by rfl, rfl⟩) ?_ ?_
       rotate_left
       · simp only [Act.put, sa, sb, sc, i64_w, i32_w]
         rfl
       refine pure_ (i := 24) (N := some 53) (v := undef) (a' := ?_) #[true, true, true, true, true, true, true, true, true, true, true, true, true, true, true, true, true, true, true, true, true, true, true, true, true, false, false, false, false] rfl rfl (any_of HT_.out (by kernel_rfl)) (fun _ _ _ h => h) (Or.inr ⟨by rfl, rfl⟩) ?_ ?_
       rotate_left
       · simp only [Act.put, sa, sb, sc, i64_w, i32_w]
         rfl
       refine pure_ (i := 25) (N := some 54) (v := undef) (a' := ?_) #[true, true, true, true, true, true, true, true, true, true, true, true, true, true, true, true, true, true, true, true, true, true, true, true, true, true, false, false, false] rfl rfl (any_of HT_.out (by kernel_rfl)) (fun _ _ _ h => h) (Or.inr ⟨by rfl, rfl⟩) ?_ ?_
       rotate_left
       · simp only [Act.put, sa, sb, sc, i64_w, i32_w]
         rfl
       refine pure_ (i := 26) (N := some 55) (v := undef) (a' := ?_) #[true, true, true, true, true, true, true, true, true, true, true, true, true, true, true, true, true, true, true, true, true, true, true, true, true, true, true, false, false] rfl rfl (any_of HT_.out (by kernel_rfl)) (fun _ _ _ h => h) (Or.inr ⟨by rfl, rfl⟩) ?_ ?_
       rotate_left
       · simp only [Act.put, sa, sb, sc, i64_w, i32_w]
         rfl
       refine pure_ (i := 27) (N := some 56) (v := ?_) (a' := ?_) #[true, true, true, true, true, true, true, true, true, true, true, true, true, true, true, true, true, true, true, true, true, true, true, true, true, true, true, true, false] rfl rfl (any_of HT_.out (by kernel_rfl)) (fun _ _ _ h => h) (Or.inl ⟨by rfl, ?_⟩) ?_ ?_
       rotate_left
       · intro w'; go_simp
         with_reducible rfl
       rotate_left
       · simp only [Act.put, sa, sb, sc, i64_w, i32_w]
         rfl
       refine pure_ (i := 28) (N := some 57) (v := ?_) (a' := ?_) #[true, true, true, true, true, true, true, true, true, true, true, true, true, true, true, true, true, true, true, true, true, true, true, true, true, true, true, true, true] rfl rfl (any_of HT_.out (by kernel_rfl)) (fun _ _ _ h => h) (Or.inl ⟨by rfl, ?_⟩) ?_ ?_
       rotate_left
       · intro w'; go_simp
         with_reducible rfl
       rotate_left
       · simp only [Act.put, sa, sb, sc, i64_w, i32_w]
         rfl
       refine done_ (done_of HT_.out (by kernel_rfl)) ?_
       try go_wp2
       go_roundg k2
       case measure => have := HJ1.out; have := HK2.out; omega
       case rel => exact ⟨(wrap64 (x3_2 + 1)), eqA, H', ⟨by have := HJ1.out; have := HK2.out; omega⟩, ⟨blkA⟩, ⟨belA⟩⟩
     rw [if_pos c13] at H; have c13b0 : decide (0 < x3_2) = true := decide_eq_true c13; clear c13; obtain ⟨ji14, hji14⟩ : ∃ j_ : Int, (wrap64 (x3_2 - 1)) = j_ := ⟨_, rfl⟩; replace H : (if 0 ≤ (ji14) then (if (ji14) < (l0_2.length : Int) then (if ((rd_T93 l0_2 (ji14)).f0) > ((rd_T93 l0_2 x3_2).f0) then (some false) else (spec_PlanOk.l0 k2 (wrap64 (x3_2 + 1)) a0_0 a0_1 l0_2)) else (none)) else (none)) = some r := by first | (rw [hji14] at H; exact H) | (simp only [hji14] at H ⊢; exact H)
     (try rw [hji14] at A11)
     have hji14w : (IntKind.i64.wrap (x3_2 - 1)) = ji14 := (i64_w _).trans hji14
     by_cases c15 : 0 ≤ (ji14); rotate_left
     · rw [if_neg c15] at H; exact absurd H (by simp)
     rw [if_pos c15] at H; have c15b0 := decide_eq_true c15; clear c15
     by_cases c16 : (ji14) < (l0_2.length : Int); rotate_left
     · rw [if_neg c16] at H; exact absurd H (by simp)
     rw [if_pos c16] at H; have c16b0 := decide_eq_true c16; clear c16
     by_cases c17 : ((rd_T93 l0_2 (ji14)).f0) > ((rd_T93 l0_2 x3_2).f0); rotate_left
     · rw [if_neg c17] at H; have c17b0 : decide (((rd_T93 l0_2 x3_2).f0) < ((rd_T93 l0_2 (ji14)).f0)) = false := decide_eq_false c17; clear c17; have H' := ak H; clear H; obtain ⟨_, _, _, _, _, _⟩ := cel3 BK225; try go_wp2
       replace BK225 := ak (blk_drew BK225.out); replace HB := ak (below_drew1 HB.out); have p227 : 0 ≤ (x3_2 : Int) := odA; have q227 : x3_2 < (l0_2.length : Int) := odA; obtain ⟨ad227, e227, hx227_0, hx227_1, hx227_2⟩ := at_T93 HR0_2.out x3_2 p227 q227; have hw227_2 := hx227_2; have hw227_1 := hx227_1; have hw227_0 := hx227_0
       cases e227
       try replace hx227_0 := cB HB hx227_0
       try replace hx227_1 := cB HB hx227_1
       try replace hx227_2 := cB HB hx227_2
       replace p227 := eq_true p227; replace q227 := eq_true q227; have p229 : 0 ≤ ((ji14) : Int) := odA; have q229 : (ji14) < (l0_2.length : Int) := odA; obtain ⟨ad229, e229, hx229_0, hx229_1, hx229_2⟩ := at_T93 HR0_2.out (ji14) p229 q229; have hw229_2 := hx229_2; have hw229_1 := hx229_1; have hw229_0 := hx229_0; obtain rfl : ad227 = ad229 := (by injection e229); try replace hx229_0 := cB HB hx229_0
       try replace hx229_1 := cB HB hx229_1
       try replace hx229_2 := cB HB hx229_2
       replace p229 := eq_true p229; replace q229 := eq_true q229; have p230 : 0 ≤ (x3_2 : Int) := odA; have q230 : x3_2 < (l0_2.length : Int) := odA; obtain ⟨ad230, e230, hx230_0, hx230_1, hx230_2⟩ := at_T93 HR0_2.out x3_2 p230 q230; have hw230_2 := hx230_2; have hw230_1 := hx230_1; have hw230_0 := hx230_0; obtain rfl : ad227 = ad230 := (by injection e230); try replace hx230_0 := cB HB hx230_0
       try replace hx230_1 := cB HB hx230_1
       try replace hx230_2 := cB HB hx230_2
       replace p230 := eq_true p230; replace q230 := eq_true q230; refine start_ (n := 29) (S := fun w' => w'.cell? ⟨gb225, 0, none⟩ = some (.int .i64 a0_0) ∧ w'.cell? ⟨gb225, 1, none⟩ = some (.int .i64 a0_1) ∧ w'.cell? ⟨gb225, 2, none⟩ = some (.slice (some ad227) l0_2.length c0_2) ∧ w'.cell? (ad227.add ((x3_2).toNat * 3)) = some (.int .i64 ((rd_T93 l0_2 x3_2).f0)) ∧ w'.cell? ⟨(ad227.add ((x3_2).toNat * 3)).block, (ad227.add ((x3_2).toNat * 3)).off + 1, none⟩ = some (.int .i64 ((rd_T93 l0_2 x3_2).f1)) ∧ w'.cell? ⟨(ad227.add ((x3_2).toNat * 3)).block, (ad227.add ((x3_2).toNat * 3)).off + 2, none⟩ = some (.int .i64 ((rd_T93 l0_2 x3_2).f2)) ∧ w'.cell? (ad227.add (((ji14)).toNat * 3)) = some (.int .i64 ((rd_T93 l0_2 (ji14)).f0)) ∧ w'.cell? ⟨(ad227.add (((ji14)).toNat * 3)).block, (ad227.add (((ji14)).toNat * 3)).off + 1, none⟩ = some (.int .i64 ((rd_T93 l0_2 (ji14)).f1)) ∧ w'.cell? ⟨(ad227.add (((ji14)).toNat * 3)).block, (ad227.add (((ji14)).toNat * 3)).off + 2, none⟩ = some (.int .i64 ((rd_T93 l0_2 (ji14)).f2)) ∧ w'.cell? (ad227.add ((x3_2).toNat * 3)) = some (.int .i64 ((rd_T93 l0_2 x3_2).f0)) ∧ w'.cell? ⟨(ad227.add ((x3_2).toNat * 3)).block, (ad227.add ((x3_2).toNat * 3)).off + 1, none⟩ = some (.int .i64 ((rd_T93 l0_2 x3_2).f1)) ∧ w'.cell? ⟨(ad227.add ((x3_2).toNat * 3)).block, (ad227.add ((x3_2).toNat * 3)).off + 2, none⟩ = some (.int .i64 ((rd_T93 l0_2 x3_2).f2))) (ds := []) #[false, false, false, false, false, false, false, false, false, false, false, false, false, false, false, false, false, false, false, false, false, false, false, false, false, false, false, false, false] (by kernel_rfl) rfl rfl ⟨(blk_cell BK225.out 0).trans rfl, (blk_cell BK225.out 1).trans rfl, (blk_cell BK225.out 2).trans rfl, ((HB.out.cell (World.block_lt_of_cell? w _ hw227_0)).trans hw227_0), ((HB.out.cell (World.block_lt_of_cell? w _ hw227_1)).trans hw227_1), ((HB.out.cell (World.block_lt_of_cell? w _ hw227_2)).trans hw227_2), ((HB.out.cell (World.block_lt_of_cell? w _ hw229_0)).trans hw229_0), ((HB.out.cell (World.block_lt_of_cell? w _ hw229_1)).trans hw229_1), ((HB.out.cell (World.block_lt_of_cell? w _ hw229_2)).trans hw229_2), ((HB.out.cell (World.block_lt_of_cell? w _ hw230_0)).trans hw230_0), ((HB.out.cell (World.block_lt_of_cell? w _ hw230_1)).trans hw230_1), ((HB.out.cell (World.block_lt_of_cell? w _ hw230_2)).trans hw230_2)⟩ (fun hHeld => ?_); refine with_tabW spec_PlanOk.tab6 spec_PlanOk.bits6 (fun HT_ HW_ => ?_)
       generalize wr.drew = w22 at BK225 HB hx227_0 hx227_1 hx227_2 hx229_0 hx229_1 hx229_2 hx230_0 hx230_1 hx230_2 hHeld ⊢
       refine pure_ (i := 0) (N := some 29) (v := ?_) (a' := ?_) #[true, false, false, false, false, false, false, false, false, false, false, false, false, false, false, false, false, false, false, false, false, false, false, false, false, false, false, false, false] rfl rfl (any_of HT_.out (by kernel_rfl)) (fun _ _ _ h => h) (Or.inl ⟨by rfl, ?_⟩) ?_ ?_
       rotate_left
       · intro w'; go_simp
         with_reducible rfl
       rotate_left
       · simp only [Act.put, sa, sb, sc, i64_w, i32_w]
         rfl
       refine pure_ (i := 2) (N := some 31) (v := ?_) (a' := ?_) #[true, false, true, false, false, false, false, false, false, false, false, false, false, false, false, false, false, false, false, false, false, false, false, false, false, false, false, false, false] rfl rfl (any_of HT_.out (by kernel_rfl)) (fun _ _ _ h => h) (Or.inl ⟨by rfl, ?_⟩) ?_ ?_
       rotate_left
       · intro w'; go_simp
         with_reducible rfl
       rotate_left
       · simp only [Act.put, sa, sb, sc, i64_w, i32_w]
         rfl
       refine pure_ (i := 4) (N := some 33) (v := ?_) (a' := ?_) #[true, false, true, false, true, false, false, false, false, false, false, false, false, false, false, false, false, false, false, false, false, false, false, false, false, false, false, false, false] rfl rfl (any_of HT_.out (by kernel_rfl)) (fun _ _ _ h => h) (Or.inl ⟨by rfl, ?_⟩) ?_ ?_
       rotate_left
       · intro w'; go_simp
         with_reducible rfl
       rotate_left
       · simp only [Act.put, sa, sb, sc, i64_w, i32_w]
         rfl
       refine take_ (i := 1) (N := some 30) (v := ?_) (a' := ?_) #[true, true, true, false, true, false, false, false, false, false, false, false, false, false, false, false, false, false, false, false, false, false, false, false, false, false, false, false, false] rfl rfl (take_ofW HT_.out HW_.out (by kernel_rfl)) (fun _ _ _ h => h) (Or.inl ⟨by rfl, ?_⟩) hHeld ?_ ?_
       rotate_left
       · rintro w' ⟨s0, s1, s2, s3, s4, s5, s6, s7, s8, s9, s10, s11⟩
         go_simp
         with_reducible rfl
       rotate_left
       · simp only [Act.put, sa, sb, sc, i64_w, i32_w]
         rfl
       refine take_ (i := 3) (N := some 32) (v := ?_) (a' := ?_) #[true, true, true, true, true, false, false, false, false, false, false, false, false, false, false, false, false, false, false, false, false, false, false, false, false, false, false, false, false] rfl rfl (take_ofW HT_.out HW_.out (by kernel_rfl)) (fun _ _ _ h => h) (Or.inl ⟨by rfl, ?_⟩) hHeld ?_ ?_
       rotate_left
       · rintro w' ⟨s0, s1, s2, s3, s4, s5, s6, s7, s8, s9, s10, s11⟩
         go_simp
         with_reducible rfl
       rotate_left
       · simp only [Act.put, sa, sb, sc, i64_w, i32_w]
         rfl
       refine pure_ (i := 5) (N := some 34) (v := ?_) (a' := ?_) #[true, true, true, true, true, true, false, false, false, false, false, false, false, false, false, false, false, false, false, false, false, false, false, false, false, false, false, false, false] rfl rfl (any_of HT_.out (by kernel_rfl)) (fun _ _ _ h => h) (Or.inl ⟨by rfl, ?_⟩) ?_ ?_
       rotate_left
       · intro w'; go_simp
         with_reducible rfl
       rotate_left
       · simp only [Act.put, sa, sb, sc, i64_w, i32_w]
         rfl
       refine take_ (i := 6) (N := some 35) (v := ?_) (a' := ?_) #[true, true, true, true, true, true, true, false, false, false, false, false, false, false, false, false, false, false, false, false, false, false, false, false, false, false, false, false, false] rfl rfl (take_ofW HT_.out HW_.out (by kernel_rfl)) (fun _ _ _ h => h) (Or.inl ⟨by rfl, ?_⟩) hHeld ?_ ?_
       rotate_left
       · rintro w' ⟨s0, s1, s2, s3, s4, s5, s6, s7, s8, s9, s10, s11⟩
         go_simp
         with_reducible rfl
       rotate_left
       · simp only [Act.put, sa, sb, sc, i64_w, i32_w]
         rfl
       refine one_ (i := 7) (N := some 36) #[true, true, true, true, true, true, true, true, false, false, false, false, false, false, false, false, false, false, false, false, false, false, false, false, false, false, false, false, false] rfl rfl (one_of HT_.out (by kernel_rfl)) (by decide) (fun K hK => ?_)
       refine goes_ Try.func102 (by kernel_rfl) rfl #[.int .i64 a0_1, .agg #[.int .i64 ((rd_T93 l0_2 x3_2).f0), .int .i64 ((rd_T93 l0_2 x3_2).f1), .int .i64 ((rd_T93 l0_2 x3_2).f2)]] (by rfl) rfl rfl xq24 ?_
       with_reducible refine (spec_l09Run.calls a0_1 ((rd_T93 l0_2 x3_2).f0) ((rd_T93 l0_2 x3_2).f1) ((rd_T93 l0_2 x3_2).f2) true _ A11.out).mono ?_
       rintro e w23 ⟨rfl, hb⟩
       refine ⟨_, rfl, ?_⟩
       replace BK225 := bB BK225 hb; replace HB := bS hb; (try clear hb); refine hK.out _ _ ⟨(blk_cell BK225.out 0).trans rfl, (blk_cell BK225.out 1).trans rfl, (blk_cell BK225.out 2).trans rfl, ((HB.out.cell (World.block_lt_of_cell? w _ hw227_0)).trans hw227_0), ((HB.out.cell (World.block_lt_of_cell? w _ hw227_1)).trans hw227_1), ((HB.out.cell (World.block_lt_of_cell? w _ hw227_2)).trans hw227_2), ((HB.out.cell (World.block_lt_of_cell? w _ hw229_0)).trans hw229_0), ((HB.out.cell (World.block_lt_of_cell? w _ hw229_1)).trans hw229_1), ((HB.out.cell (World.block_lt_of_cell? w _ hw229_2)).trans hw229_2), ((HB.out.cell (World.block_lt_of_cell? w _ hw230_0)).trans hw230_0), ((HB.out.cell (World.block_lt_of_cell? w _ hw230_1)).trans hw230_1), ((HB.out.cell (World.block_lt_of_cell? w _ hw230_2)).trans hw230_2)⟩ (fun hHeld => ?_)
       clear hK K; refine norm_ (a' := ?_) ?_ ?_
       rotate_left
       · show Act.put _ (some 36) _ = _
         simp only [Act.put, sa, sb, sc, i64_w, i32_w]
         rfl
       refine pure_ (i := 8) (N := some 37) (v := ?_) (a' := ?_) #[true, true, true, true, true, true, true, true, true, false, false, false, false, false, false, false, false, false, false, false, false, false, false, false, false, false, false, false, false] rfl rfl (any_of HT_.out (by kernel_rfl)) (fun _ _ _ h => h) (Or.inl ⟨by rfl, ?_⟩) ?_ ?_
       rotate_left
       · intro w'; go_simp
         with_reducible rfl
       rotate_left
       · simp only [Act.put, sa, sb, sc, i64_w, i32_w]
         rfl
       refine pure_ (i := 9) (N := some 38) (v := ?_) (a' := ?_) #[true, true, true, true, true, true, true, true, true, true, false, false, false, false, false, false, false, false, false, false, false, false, false, false, false, false, false, false, false] rfl rfl (any_of HT_.out (by kernel_rfl)) (fun _ _ _ h => h) (Or.inl ⟨by rfl, ?_⟩) ?_ ?_
       rotate_left
       · intro w'; go_simp
         with_reducible rfl
       rotate_left
       · simp only [Act.put, sa, sb, sc, i64_w, i32_w]
         rfl
       refine pure_ (i := 10) (N := some 39) (v := ?_) (a' := ?_) #[true, true, true, true, true, true, true, true, true, true, true, false, false, false, false, false, false, false, false, false, false, false, false, false, false, false, false, false, false] rfl rfl (any_of HT_.out (by kernel_rfl)) (fun _ _ _ h => h) (Or.inl ⟨by rfl, ?_⟩) ?_ ?_
       rotate_left
       · intro w'; go_simp
         with_reducible rfl
       rotate_left
       · simp only [Act.put, sa, sb, sc, i64_w, i32_w]
         rfl
       refine pure_ (i := 11) (N := some 40) (v := ?_) (a' := ?_) #[true, true, true, true, true, true, true, true, true, true, true, true, false, false, false, false, false, false, false, false, false, false, false, false, false, false, false, false, false] rfl rfl (any_of HT_.out (by kernel_rfl)) (fun _ _ _ h => h) (Or.inl ⟨by rfl, ?_⟩) ?_ ?_
       rotate_left
       · intro w'; go_simp
         with_reducible rfl
       rotate_left
       · simp only [Act.put, sa, sb, sc, i64_w, i32_w]
         rfl
       refine pure_ (i := 12) (N := some 41) (v := ?_) (a' := ?_) #[true, true, true, true, true, true, true, true, true, true, true, true, true, false, false, false, false, false, false, false, false, false, false, false, false, false, false, false, false] rfl rfl (any_of HT_.out (by kernel_rfl)) (fun _ _ _ h => h) (Or.inl ⟨by rfl, ?_⟩) ?_ ?_
       rotate_left
       · intro w'; go_simp
         with_reducible rfl
       rotate_left
       · simp only [Act.put, sa, sb, sc, i64_w, i32_w]
         rfl
       refine pure_ (i := 13) (N := some 42) (v := ?_) (a' := ?_) #[true, true, true, true, true, true, true, true, true, true, true, true, true, true, false, false, false, false, false, false, false, false, false, false, false, false, false, false, false] rfl rfl (any_of HT_.out (by kernel_rfl)) (fun _ _ _ h => h) (Or.inl ⟨by rfl, ?_⟩) ?_ ?_
       rotate_left
       · intro w'; go_simp
         with_reducible rfl
       rotate_left
       · simp only [Act.put, sa, sb, sc, i64_w, i32_w]
         rfl
       refine pure_ (i := 15) (N := some 44) (v := ?_) (a' := ?_) #[true, true, true, true, true, true, true, true, true, true, true, true, true, true, false, true, false, false, false, false, false, false, false, false, false, false, false, false, false] rfl rfl (any_of HT_.out (by kernel_rfl)) (fun _ _ _ h => h) (Or.inl ⟨by rfl, ?_⟩) ?_ ?_
       rotate_left
       · intro w'; go_simp
         with_reducible rfl
       rotate_left
       · simp only [Act.put, sa, sb, sc, i64_w, i32_w]
         rfl
       refine pure_ (i := 16) (N := some 45) (v := ?_) (a' := ?_) #[true, true, true, true, true, true, true, true, true, true, true, true, true, true, false, true, true, false, false, false, false, false, false, false, false, false, false, false, false] rfl rfl (any_of HT_.out (by kernel_rfl)) (fun _ _ _ h => h) (Or.inl ⟨by rfl, ?_⟩) ?_ ?_
       rotate_left
       · intro w'; go_simp
         with_reducible rfl
       rotate_left
       · simp only [Act.put, sa, sb, sc, i64_w, i32_w]
         rfl
       refine pure_ (i := 20) (N := some 49) (v := ?_) (a' := ?_) #[true, true, true, true, true, true, true, true, true, true, true, true, true, true, false, true, true, false, false, false, true, false, false, false, false, false, false, false, false] rfl rfl (any_of HT_.out (by kernel_rfl)) (fun _ _ _ h => h) (Or.inl ⟨by rfl, ?_⟩) ?_ ?_
       rotate_left
       · intro w'; go_simp
         with_reducible rfl
       rotate_left
       · simp only [Act.put, sa, sb, sc, i64_w, i32_w]
         rfl
       refine pure_ (i := 22) (N := some 51) (v := ?_) (a' := ?_) #[true, true, true, true, true, true, true, true, true, true, true, true, true, true, false, true, true, false, false, false, true, false, true, false, false, false, false, false, false] rfl rfl (any_of HT_.out (by kernel_rfl)) (fun _ _ _ h => h) (Or.inl ⟨by rfl, ?_⟩) ?_ ?_
       rotate_left
       · intro w'; go_simp
         with_reducible rfl
       rotate_left
       · simp only [Act.put, sa, sb, sc, i64_w, i32_w]
         rfl
       refine take_ (i := 14) (N := some 43) (v := ?_) (a' := ?_) #[true, true, true, true, true, true, true, true, true, true, true, true, true, true, true, true, true, false, false, false, true, false, true, false, false, false, false, false, false] rfl rfl (take_ofW HT_.out HW_.out (by kernel_rfl)) (fun _ _ _ h => h) (Or.inl ⟨by rfl, ?_⟩) hHeld ?_ ?_
       rotate_left
       · rintro w' ⟨s0, s1, s2, s3, s4, s5, s6, s7, s8, s9, s10, s11⟩
         go_simp
         with_reducible rfl
       rotate_left
       · simp only [Act.put, sa, sb, sc, i64_w, i32_w]
         rfl
       refine pure_ (i := 17) (N := some 46) (v := ?_) (a' := ?_) #[true, true, true, true, true, true, true, true, true, true, true, true, true, true, true, true, true, true, false, false, true, false, true, false, false, false, false, false, false] rfl rfl (any_of HT_.out (by kernel_rfl)) (fun _ _ _ h => h) (Or.inl ⟨by rfl, ?_⟩) ?_ ?_
       rotate_left
       · intro w'; go_simp
         with_reducible rfl
       rotate_left
       · simp only [Act.put, sa, sb, sc, i64_w, i32_w]
         rfl
       refine pure_ (i := 18) (N := some 47) (v := ?_) (a' := ?_) #[true, true, true, true, true, true, true, true, true, true, true, true, true, true, true, true, true, true, true, false, true, false, true, false, false, false, false, false, false] rfl rfl (any_of HT_.out (by kernel_rfl)) (fun _ _ _ h => h) (Or.inl ⟨by rfl, ?_⟩) ?_ ?_
       rotate_left
       · intro w'; go_simp
         with_reducible rfl
       rotate_left
       · simp only [Act.put, sa, sb, sc, i64_w, i32_w]
         rfl
       refine take_ (i := 19) (N := some 48) (v := ?_) (a' := ?_) #[true, true, true, true, true, true, true, true, true, true, true, true, true, true, true, true, true, true, true, true, true, false, true, false, false, false, false, false, false] rfl rfl (take_ofW HT_.out HW_.out (by kernel_rfl)) (fun _ _ _ h => h) (Or.inl ⟨by rfl, ?_⟩) hHeld ?_ ?_
       rotate_left
       · rintro w' ⟨s0, s1, s2, s3, s4, s5, s6, s7, s8, s9, s10, s11⟩
         go_simp
         with_reducible rfl
       rotate_left
       · simp only [Act.put, sa, sb, sc, i64_w, i32_w]
         rfl
       refine take_ (i := 21) (N := some 50) (v := ?_) (a' := ?_) #[true, true, true, true, true, true, true, true, true, true, true, true, true, true, true, true, true, true, true, true, true, true, true, false, false, false, false, false, false] rfl rfl (take_ofW HT_.out HW_.out (by kernel_rfl)) (fun _ _ _ h => h) (Or.inl ⟨by rfl, ?_⟩) hHeld ?_ ?_
       rotate_left
       · rintro w' ⟨s0, s1, s2, s3, s4, s5, s6, s7, s8, s9, s10, s11⟩
         go_simp
         with_reducible rfl
       rotate_left
       · simp only [Act.put, sa, sb, sc, i64_w, i32_w]
         rfl
       refine pure_ (i := 23) (N := some 52) (v := ?_) (a' := ?_) #[true, true, true, true, true, true, true, true, true, true, true, true, true, true, true, true, true, true, true, true, true, true, true, true, false, false, false, false, false] rfl rfl (any_of HT_.out (by kernel_rfl)) (fun _ _ _ h => h) (Or.inl ⟨by rfl, ?_⟩) ?_ ?_
       rotate_left
       · intro w'; go_simp
         with_reducible rfl
       rotate_left
       · simp only [Act.put, sa, sb, sc, i64_w, i32_w]
         rfl
       refine pure_ (i := 24) (N := some 53) (v := ?_) (a' := ?_) #[true, true, true, true, true, true, true, true, true, true, true, true, true, true, true, true, true, true, true, true, true, true, true, true, true, false, false, false, false] rfl rfl (any_of HT_.out (by kernel_rfl)) (fun _ _ _ h => h) (Or.inl ⟨by rfl, ?_⟩) ?_ ?_
       rotate_left
       · intro w'; go_simp
         with_reducible rfl
       rotate_left
       · simp only [Act.put, sa, sb, sc, i64_w, i32_w]
         rfl
       refine take_ (i := 25) (N := some 54) (v := ?_) (a' := ?_) #[true, true, true, true, true, true, true, true, true, true, true, true, true, true, true, true, true, true, true, true, true, true, true, true, true, true, false, false, false] rfl rfl (take_ofW HT_.out HW_.out (by kernel_rfl)) (fun _ _ _ h => h) (Or.inl ⟨by rfl, ?_⟩) hHeld ?_ ?_
       rotate_left
       · rintro w' ⟨s0, s1, s2, s3, s4, s5, s6, s7, s8, s9, s10, s11⟩
         go_simp
         with_reducible rfl
       rotate_left
       · simp only [Act.put, sa, sb, sc, i64_w, i32_w]
         rfl
       refine pure_ (i := 26) (N := some 55) (v := ?_) (a' := ?_) #[true, true, true, true, true, true, true, true, true, true, true, true, true, true, true, true, true, true, true, true, true, true, true, true, true, true, true, false, false] rfl rfl (any_of HT_.out (by kernel_rfl)) (fun _ _ _ h => h) (Or.inl ⟨by rfl, ?_⟩) ?_ ?_
       rotate_left
       · intro w'; go_simp
         with_reducible rfl
       rotate_left
       · simp only [Act.put, sa, sb, sc, i64_w, i32_w]
         rfl
       refine pure_ (i := 27) (N := some 56) (v := ?_) (a' := ?_) #[true, true, true, true, true, true, true, true, true, true, true, true, true, true, true, true, true, true, true, true, true, true, true, true, true, true, true, true, false] rfl rfl (any_of HT_.out (by kernel_rfl)) (fun _ _ _ h => h) (Or.inl ⟨by rfl, ?_⟩) ?_ ?_
       rotate_left
       · intro w'; go_simp
         with_reducible rfl
       rotate_left
       · simp only [Act.put, sa, sb, sc, i64_w, i32_w]
         rfl
       refine pure_ (i := 28) (N := some 57) (v := ?_) (a' := ?_) #[true, true, true, true, true, true, true, true, true, true, true, true, true, true, true, true, true, true, true, true, true, true, true, true, true, true, true, true, true] rfl rfl (any_of HT_.out (by kernel_rfl)) (fun _ _ _ h => h) (Or.inl ⟨by rfl, ?_⟩) ?_ ?_
       rotate_left
       · intro w'; go_simp
         with_reducible rfl
       rotate_left
       · simp only [Act.put, sa, sb, sc, i64_w, i32_w]
         rfl
       refine done_ (done_of HT_.out (by kernel_rfl)) ?_
       try go_wp2
       go_roundg k2
       case measure => have := HJ1.out; have := HK2.out; omega
       case rel => exact ⟨(wrap64 (x3_2 + 1)), eqA, H', ⟨by have := HJ1.out; have := HK2.out; omega⟩, ⟨blkA⟩, ⟨belA⟩⟩
     rw [if_pos c17] at H; have c17b0 : decide (((rd_T93 l0_2 x3_2).f0) < ((rd_T93 l0_2 (ji14)).f0)) = true := decide_eq_true c17; clear c17; obtain rfl := Option.some.inj H; obtain ⟨_, _, _, _, _, _⟩ := cel3 BK225; try go_wp2
     replace BK225 := ak (blk_drew BK225.out); replace HB := ak (below_drew1 HB.out); have p227 : 0 ≤ (x3_2 : Int) := odA; have q227 : x3_2 < (l0_2.length : Int) := odA; obtain ⟨ad227, e227, hx227_0, hx227_1, hx227_2⟩ := at_T93 HR0_2.out x3_2 p227 q227; have hw227_2 := hx227_2; have hw227_1 := hx227_1; have hw227_0 := hx227_0
     cases e227
     try replace hx227_0 := cB HB hx227_0
     try replace hx227_1 := cB HB hx227_1
     try replace hx227_2 := cB HB hx227_2
     replace p227 := eq_true p227; replace q227 := eq_true q227; have p229 : 0 ≤ ((ji14) : Int) := odA; have q229 : (ji14) < (l0_2.length : Int) := odA; obtain ⟨ad229, e229, hx229_0, hx229_1, hx229_2⟩ := at_T93 HR0_2.out (ji14) p229 q229; have hw229_2 := hx229_2; have hw229_1 := hx229_1; have hw229_0 := hx229_0; obtain rfl : ad227 = ad229 := (by injection e229); try replace hx229_0 := cB HB hx229_0
     try replace hx229_1 := cB HB hx229_1
     try replace hx229_2 := cB HB hx229_2
     replace p229 := eq_true p229; replace q229 := eq_true q229; have p230 : 0 ≤ (x3_2 : Int) := odA; have q230 : x3_2 < (l0_2.length : Int) := odA; obtain ⟨ad230, e230, hx230_0, hx230_1, hx230_2⟩ := at_T93 HR0_2.out x3_2 p230 q230; have hw230_2 := hx230_2; have hw230_1 := hx230_1; have hw230_0 := hx230_0; obtain rfl : ad227 = ad230 := (by injection e230); try replace hx230_0 := cB HB hx230_0
     try replace hx230_1 := cB HB hx230_1
     try replace hx230_2 := cB HB hx230_2
     replace p230 := eq_true p230; replace q230 := eq_true q230; refine start_ (n := 29) (S := fun w' => w'.cell? ⟨gb225, 0, none⟩ = some (.int .i64 a0_0) ∧ w'.cell? ⟨gb225, 1, none⟩ = some (.int .i64 a0_1) ∧ w'.cell? ⟨gb225, 2, none⟩ = some (.slice (some ad227) l0_2.length c0_2) ∧ w'.cell? (ad227.add ((x3_2).toNat * 3)) = some (.int .i64 ((rd_T93 l0_2 x3_2).f0)) ∧ w'.cell? ⟨(ad227.add ((x3_2).toNat * 3)).block, (ad227.add ((x3_2).toNat * 3)).off + 1, none⟩ = some (.int .i64 ((rd_T93 l0_2 x3_2).f1)) ∧ w'.cell? ⟨(ad227.add ((x3_2).toNat * 3)).block, (ad227.add ((x3_2).toNat * 3)).off + 2, none⟩ = some (.int .i64 ((rd_T93 l0_2 x3_2).f2)) ∧ w'.cell? (ad227.add (((ji14)).toNat * 3)) = some (.int .i64 ((rd_T93 l0_2 (ji14)).f0)) ∧ w'.cell? ⟨(ad227.add (((ji14)).toNat * 3)).block, (ad227.add (((ji14)).toNat * 3)).off + 1, none⟩ = some (.int .i64 ((rd_T93 l0_2 (ji14)).f1)) ∧ w'.cell? ⟨(ad227.add (((ji14)).toNat * 3)).block, (ad227.add (((ji14)).toNat * 3)).off + 2, none⟩ = some (.int .i64 ((rd_T93 l0_2 (ji14)).f2)) ∧ w'.cell? (ad227.add ((x3_2).toNat * 3)) = some (.int .i64 ((rd_T93 l0_2 x3_2).f0)) ∧ w'.cell? ⟨(ad227.add ((x3_2).toNat * 3)).block, (ad227.add ((x3_2).toNat * 3)).off + 1, none⟩ = some (.int .i64 ((rd_T93 l0_2 x3_2).f1)) ∧ w'.cell? ⟨(ad227.add ((x3_2).toNat * 3)).block, (ad227.add ((x3_2).toNat * 3)).off + 2, none⟩ = some (.int .i64 ((rd_T93 l0_2 x3_2).f2))) (ds := []) #[false, false, false, false, false, false, false, false, false, false, false, false, false, false, false, false, false, false, false, false, false, false, false, false, false, false, false, false, false] (by kernel_rfl) rfl rfl ⟨(blk_cell BK225.out 0).trans rfl, (blk_cell BK225.out 1).trans rfl, (blk_cell BK225.out 2).trans rfl, ((HB.out.cell (World.block_lt_of_cell? w _ hw227_0)).trans hw227_0), ((HB.out.cell (World.block_lt_of_cell? w _ hw227_1)).trans hw227_1), ((HB.out.cell (World.block_lt_of_cell? w _ hw227_2)).trans hw227_2), ((HB.out.cell (World.block_lt_of_cell? w _ hw229_0)).trans hw229_0), ((HB.out.cell (World.block_lt_of_cell? w _ hw229_1)).trans hw229_1), ((HB.out.cell (World.block_lt_of_cell? w _ hw229_2)).trans hw229_2), ((HB.out.cell (World.block_lt_of_cell? w _ hw230_0)).trans hw230_0), ((HB.out.cell (World.block_lt_of_cell? w _ hw230_1)).trans hw230_1), ((HB.out.cell (World.block_lt_of_cell? w _ hw230_2)).trans hw230_2)⟩ (fun hHeld => ?_); refine with_tabW spec_PlanOk.tab6 spec_PlanOk.bits6 (fun HT_ HW_ => ?_)
     generalize wr.drew = w19 at BK225 HB hx227_0 hx227_1 hx227_2 hx229_0 hx229_1 hx229_2 hx230_0 hx230_1 hx230_2 hHeld ⊢
     refine pure_ (i := 0) (N := some 29) (v := ?_) (a' := ?_) #[true, false, false, false, false, false, false, false, false, false, false, false, false, false, false, false, false, false, false, false, false, false, false, false, false, false, false, false, false] rfl rfl (any_of HT_.out (by kernel_rfl)) (fun _ _ _ h => h) (Or.inl ⟨by rfl, ?_⟩) ?_ ?_
     rotate_left
     · intro w'; go_simp
       with_reducible rfl
     rotate_left
     · simp only [Act.put, sa, sb, sc, i64_w, i32_w]
       rfl
     refine pure_ (i := 2) (N := some 31) (v := ?_) (a' := ?_) #[true, false, true, false, false, false, false, false, false, false, false, false, false, false, false, false, false, false, false, false, false, false, false, false, false, false, false, false, false] rfl rfl (any_of HT_.out (by kernel_rfl)) (fun _ _ _ h => h) (Or.inl ⟨by rfl, ?_⟩) ?_ ?_
     rotate_left
     · intro w'; go_simp
       with_reducible rfl
     rotate_left
     · simp only [Act.put, sa, sb, sc, i64_w, i32_w]
       rfl
     refine pure_ (i := 4) (N := some 33) (v := ?_) (a' := ?_) #[true, false, true, false, true, false, false, false, false, false, false, false, false, false, false, false, false, false, false, false, false, false, false, false, false, false, false, false, false] rfl rfl (any_of HT_.out (by kernel_rfl)) (fun _ _ _ h => h) (Or.inl ⟨by rfl, ?_⟩) ?_ ?_
     rotate_left
     · intro w'; go_simp
       with_reducible rfl
     rotate_left
     · simp only [Act.put, sa, sb, sc, i64_w, i32_w]
       rfl
     refine take_ (i := 1) (N := some 30) (v := ?_) (a' := ?_) #[true, true, true, false, true, false, false, false, false, false, false, false, false, false, false, false, false, false, false, false, false, false, false, false, false, false, false, false, false] rfl rfl (take_ofW HT_.out HW_.out (by kernel_rfl)) (fun _ _ _ h => h) (Or.inl ⟨by rfl, ?_⟩) hHeld ?_ ?_
     rotate_left
     · rintro w' ⟨s0, s1, s2, s3, s4, s5, s6, s7, s8, s9, s10, s11⟩
       go_simp
       with_reducible rfl
     rotate_left
     · simp only [Act.put, sa, sb, sc, i64_w, i32_w]
       rfl
     refine take_ (i := 3) (N := some 32) (v := ?_) (a' := ?_) #[true, true, true, true, true, false, false, false, false, false, false, false, false, false, false, false, false, false, false, false, false, false, false, false, false, false, false, false, false] rfl rfl (take_ofW HT_.out HW_.out (by kernel_rfl)) (fun _ _ _ h => h) (Or.inl ⟨by rfl, ?_⟩) hHeld ?_ ?_
     rotate_left
     · rintro w' ⟨s0, s1, s2, s3, s4, s5, s6, s7, s8, s9, s10, s11⟩
       go_simp
       with_reducible rfl
     rotate_left
     · simp only [Act.put, sa, sb, sc, i64_w, i32_w]
       rfl
     refine pure_ (i := 5) (N := some 34) (v := ?_) (a' := ?_) #[true, true, true, true, true, true, false, false, false, false, false, false, false, false, false, false, false, false, false, false, false, false, false, false, false, false, false, false, false] rfl rfl (any_of HT_.out (by kernel_rfl)) (fun _ _ _ h => h) (Or.inl ⟨by rfl, ?_⟩) ?_ ?_
     rotate_left
     · intro w'; go_simp
       with_reducible rfl
     rotate_left
     · simp only [Act.put, sa, sb, sc, i64_w, i32_w]
       rfl
     refine take_ (i := 6) (N := some 35) (v := ?_) (a' := ?_) #[true, true, true, true, true, true, true, false, false, false, false, false, false, false, false, false, false, false, false, false, false, false, false, false, false, false, false, false, false] rfl rfl (take_ofW HT_.out HW_.out (by kernel_rfl)) (fun _ _ _ h => h) (Or.inl ⟨by rfl, ?_⟩) hHeld ?_ ?_
     rotate_left
     · rintro w' ⟨s0, s1, s2, s3, s4, s5, s6, s7, s8, s9, s10, s11⟩
       go_simp
       with_reducible rfl
     rotate_left
     · simp only [Act.put, sa, sb, sc, i64_w, i32_w]
       rfl
     refine one_ (i := 7) (N := some 36) #[true, true, true, true, true, true, true, true, false, false, false, false, false, false, false, false, false, false, false, false, false, false, false, false, false, false, false, false, false] rfl rfl (one_of HT_.out (by kernel_rfl)) (by decide) (fun K hK => ?_)
     refine goes_ Try.func102 (by kernel_rfl) rfl #[.int .i64 a0_1, .agg #[.int .i64 ((rd_T93 l0_2 x3_2).f0), .int .i64 ((rd_T93 l0_2 x3_2).f1), .int .i64 ((rd_T93 l0_2 x3_2).f2)]] (by rfl) rfl rfl xq24 ?_
     with_reducible refine (spec_l09Run.calls a0_1 ((rd_T93 l0_2 x3_2).f0) ((rd_T93 l0_2 x3_2).f1) ((rd_T93 l0_2 x3_2).f2) true _ A11.out).mono ?_
     rintro e w20 ⟨rfl, hb⟩
     refine ⟨_, rfl, ?_⟩
     replace BK225 := bB BK225 hb; replace HB := bS hb; (try clear hb); refine hK.out _ _ ⟨(blk_cell BK225.out 0).trans rfl, (blk_cell BK225.out 1).trans rfl, (blk_cell BK225.out 2).trans rfl, ((HB.out.cell (World.block_lt_of_cell? w _ hw227_0)).trans hw227_0), ((HB.out.cell (World.block_lt_of_cell? w _ hw227_1)).trans hw227_1), ((HB.out.cell (World.block_lt_of_cell? w _ hw227_2)).trans hw227_2), ((HB.out.cell (World.block_lt_of_cell? w _ hw229_0)).trans hw229_0), ((HB.out.cell (World.block_lt_of_cell? w _ hw229_1)).trans hw229_1), ((HB.out.cell (World.block_lt_of_cell? w _ hw229_2)).trans hw229_2), ((HB.out.cell (World.block_lt_of_cell? w _ hw230_0)).trans hw230_0), ((HB.out.cell (World.block_lt_of_cell? w _ hw230_1)).trans hw230_1), ((HB.out.cell (World.block_lt_of_cell? w _ hw230_2)).trans hw230_2)⟩ (fun hHeld => ?_)
     clear hK K; refine norm_ (a' := ?_) ?_ ?_
     rotate_left
     · show Act.put _ (some 36) _ = _
       simp only [Act.put, sa, sb, sc, i64_w, i32_w]
       rfl
     refine pure_ (i := 8) (N := some 37) (v := ?_) (a' := ?_) #[true, true, true, true, true, true, true, true, true, false, false, false, false, false, false, false, false, false, false, false, false, false, false, false, false, false, false, false, false] rfl rfl (any_of HT_.out (by kernel_rfl)) (fun _ _ _ h => h) (Or.inl ⟨by rfl, ?_⟩) ?_ ?_
     rotate_left
     · intro w'; go_simp
       with_reducible rfl
     rotate_left
     · simp only [Act.put, sa, sb, sc, i64_w, i32_w]
       rfl
     refine pure_ (i := 9) (N := some 38) (v := ?_) (a' := ?_) #[true, true, true, true, true, true, true, true, true, true, false, false, false, false, false, false, false, false, false, false, false, false, false, false, false, false, false, false, false] rfl rfl (any_of HT_.out (by kernel_rfl)) (fun _ _ _ h => h) (Or.inl ⟨by rfl, ?_⟩) ?_ ?_
     rotate_left
     · intro w'; go_simp
       with_reducible rfl
     rotate_left
     · simp only [Act.put, sa, sb, sc, i64_w, i32_w]
       rfl
     refine pure_ (i := 10) (N := some 39) (v := ?_) (a' := ?_) #[true, true, true, true, true, true, true, true, true, true, true, false, false, false, false, false, false, false, false, false, false, false, false, false, false, false, false, false, false] rfl rfl (any_of HT_.out (by kernel_rfl)) (fun _ _ _ h => h) (Or.inl ⟨by rfl, ?_⟩) ?_ ?_
     rotate_left
     · intro w'; go_simp
       with_reducible rfl
     rotate_left
     · simp only [Act.put, sa, sb, sc, i64_w, i32_w]
       rfl
     refine pure_ (i := 11) (N := some 40) (v := ?_) (a' := ?_) #[true, true, true, true, true, true, true, true, true, true, true, true, false, false, false, false, false, false, false, false, false, false, false, false, false, false, false, false, false] rfl rfl (any_of HT_.out (by kernel_rfl)) (fun _ _ _ h => h) (Or.inl ⟨by rfl, ?_⟩) ?_ ?_
     rotate_left
     · intro w'; go_simp
       with_reducible rfl
     rotate_left
     · simp only [Act.put, sa, sb, sc, i64_w, i32_w]
       rfl
     refine pure_ (i := 12) (N := some 41) (v := ?_) (a' := ?_) #[true, true, true, true, true, true, true, true, true, true, true, true, true, false, false, false, false, false, false, false, false, false, false, false, false, false, false, false, false] rfl rfl (any_of HT_.out (by kernel_rfl)) (fun _ _ _ h => h) (Or.inl ⟨by rfl, ?_⟩) ?_ ?_
     rotate_left
     · intro w'; go_simp
       with_reducible rfl
     rotate_left
     · simp only [Act.put, sa, sb, sc, i64_w, i32_w]
       rfl
     refine pure_ (i := 13) (N := some 42) (v := ?_) (a' := ?_) #[true, true, true, true, true, true, true, true, true, true, true, true, true, true, false, false, false, false, false, false, false, false, false, false, false, false, false, false, false] rfl rfl (any_of HT_.out (by kernel_rfl)) (fun _ _ _ h => h) (Or.inl ⟨by rfl, ?_⟩) ?_ ?_
     rotate_left
     · intro w'; go_simp
       with_reducible rfl
     rotate_left
     · simp only [Act.put, sa, sb, sc, i64_w, i32_w]
       rfl
     refine pure_ (i := 15) (N := some 44) (v := ?_) (a' := ?_) #[true, true, true, true, true, true, true, true, true, true, true, true, true, true, false, true, false, false, false, false, false, false, false, false, false, false, false, false, false] rfl rfl (any_of HT_.out (by kernel_rfl)) (fun _ _ _ h => h) (Or.inl ⟨by rfl, ?_⟩) ?_ ?_
     rotate_left
     · intro w'; go_simp
       with_reducible rfl
     rotate_left
     · simp only [Act.put, sa, sb, sc, i64_w, i32_w]
       rfl
     refine pure_ (i := 16) (N := some 45) (v := ?_) (a' := ?_) #[true, true, true, true, true, true, true, true, true, true, true, true, true, true, false, true, true, false, false, false, false, false, false, false, false, false, false, false, false] rfl rfl (any_of HT_.out (by kernel_rfl)) (fun _ _ _ h => h) (Or.inl ⟨by rfl, ?_⟩) ?_ ?_
     rotate_left
     · intro w'; go_simp
       with_reducible rfl
     rotate_left
     · simp only [Act.put, sa, sb, sc, i64_w, i32_w]
       rfl
     refine pure_ (i := 20) (N := some 49) (v := ?_) (a' := ?_) #[true, true, true, true, true, true, true, true, true, true, true, true, true, true, false, true, true, false, false, false, true, false, false, false, false, false, false, false, false] rfl rfl (any_of HT_.out (by kernel_rfl)) (fun _ _ _ h => h) (Or.inl ⟨by rfl, ?_⟩) ?_ ?_
     rotate_left
     · intro w'; go_simp
       with_reducible rfl
     rotate_left
     · simp only [Act.put, sa, sb, sc, i64_w, i32_w]
       rfl
     refine pure_ (i := 22) (N := some 51) (v := ?_) (a' := ?_) #[true, true, true, true, true, true, true, true, true, true, true, true, true, true, false, true, true, false, false, false, true, false, true, false, false, false, false, false, false] rfl rfl (any_of HT_.out (by kernel_rfl)) (fun _ _ _ h => h) (Or.inl ⟨by rfl, ?_⟩) ?_ ?_
     rotate_left
     · intro w'; go_simp
       with_reducible rfl
     rotate_left
     · simp only [Act.put, sa, sb, sc, i64_w, i32_w]
       rfl
     refine take_ (i := 14) (N := some 43) (v := ?_) (a' := ?_) #[true, true, true, true, true, true, true, true, true, true, true, true, true, true, true, true, true, false, false, false, true, false, true, false, false, false, false, false, false] rfl rfl (take_ofW HT_.out HW_.out (by kernel_rfl)) (fun _ _ _ h => h) (Or.inl ⟨by rfl, ?_⟩) hHeld ?_ ?_
     rotate_left
     · rintro w' ⟨s0, s1, s2, s3, s4, s5, s6, s7, s8, s9, s10, s11⟩
       go_simp
       with_reducible rfl
     rotate_left
     · simp only [Act.put, sa, sb, sc, i64_w, i32_w]
       rfl
     refine pure_ (i := 17) (N := some 46) (v := ?_) (a' := ?_) #[true, true, true, true, true, true, true, true, true, true, true, true, true, true, true, true, true, true, false, false, true, false, true, false, false, false, false, false, false] rfl rfl (any_of HT_.out (by kernel_rfl)) (fun _ _ _ h => h) (Or.inl ⟨by rfl, ?_⟩) ?_ ?_
     rotate_left
     · intro w'; go_simp
       with_reducible rfl
     rotate_left
     · simp only [Act.put, sa, sb, sc, i64_w, i32_w]
       rfl
     refine pure_ (i := 18) (N := some 47) (v := ?_) (a' := ?_) #[true, true, true, true, true, true, true, true, true, true, true, true, true, true, true, true, true, true, true, false, true, false, true, false, false, false, false, false, false] rfl rfl (any_of HT_.out (by kernel_rfl)) (fun _ _ _ h => h) (Or.inl ⟨by rfl, ?_⟩) ?_ ?_
     rotate_left
     · intro w'; go_simp
       with_reducible rfl
     rotate_left
     · simp only [Act.put, sa, sb, sc, i64_w, i32_w]
       rfl
     refine take_ (i := 19) (N := some 48) (v := ?_) (a' := ?_) #[true, true, true, true, true, true, true, true, true, true, true, true, true, true, true, true, true, true, true, true, true, false, true, false, false, false, false, false, false] rfl rfl (take_ofW HT_.out HW_.out (by kernel_rfl)) (fun _ _ _ h => h) (Or.inl ⟨by rfl, ?_⟩) hHeld ?_ ?_
     rotate_left
     · rintro w' ⟨s0, s1, s2, s3, s4, s5, s6, s7, s8, s9, s10, s11⟩
       go_simp
       with_reducible rfl
     rotate_left
     · simp only [Act.put, sa, sb, sc, i64_w, i32_w]
       rfl
     refine take_ (i := 21) (N := some 50) (v := ?_) (a' := ?_) #[true, true, true, true, true, true, true, true, true, true, true, true, true, true, true, true, true, true, true, true, true, true, true, false, false, false, false, false, false] rfl rfl (take_ofW HT_.out HW_.out (by kernel_rfl)) (fun _ _ _ h => h) (Or.inl ⟨by rfl, ?_⟩) hHeld ?_ ?_
     rotate_left
     · rintro w' ⟨s0, s1, s2, s3, s4, s5, s6, s7, s8, s9, s10, s11⟩
       go_simp
       with_reducible rfl
     rotate_left
     · simp only [Act.put, sa, sb, sc, i64_w, i32_w]
       rfl
     refine pure_ (i := 23) (N := some 52) (v := ?_) (a' := ?_) #[true, true, true, true, true, true, true, true, true, true, true, true, true, true, true, true, true, true, true, true, true, true, true, true, false, false, false, false, false] rfl rfl (any_of HT_.out (by kernel_rfl)) (fun _ _ _ h => h) (Or.inl ⟨by rfl, ?_⟩) ?_ ?_
     rotate_left
     · intro w'; go_simp
       with_reducible rfl
     rotate_left
     · simp only [Act.put, sa, sb, sc, i64_w, i32_w]
       rfl
     refine pure_ (i := 24) (N := some 53) (v := ?_) (a' := ?_) #[true, true, true, true, true, true, true, true, true, true, true, true, true, true, true, true, true, true, true, true, true, true, true, true, true, false, false, false, false] rfl rfl (any_of HT_.out (by kernel_rfl)) (fun _ _ _ h => h) (Or.inl ⟨by rfl, ?_⟩) ?_ ?_
     rotate_left
     · intro w'; go_simp
       with_reducible rfl
     rotate_left
     · simp only [Act.put, sa, sb, sc, i64_w, i32_w]
       rfl
     refine take_ (i := 25) (N := some 54) (v := ?_) (a' := ?_) #[true, true, true, true, true, true, true, true, true, true, true, true, true, true, true, true, true, true, true, true, true, true, true, true, true, true, false, false, false] rfl rfl (take_ofW HT_.out HW_.out (by kernel_rfl)) (fun _ _ _ h => h) (Or.inl ⟨by rfl, ?_⟩) hHeld ?_ ?_
     rotate_left
     · rintro w' ⟨s0, s1, s2, s3, s4, s5, s6, s7, s8, s9, s10, s11⟩
       go_simp
       with_reducible rfl
     rotate_left
     · simp only [Act.put, sa, sb, sc, i64_w, i32_w]
       rfl
     refine pure_ (i := 26) (N := some 55) (v := ?_) (a' := ?_) #[true, true, true, true, true, true, true, true, true, true, true, true, true, true, true, true, true, true, true, true, true, true, true, true, true, true, true, false, false] rfl rfl (any_of HT_.out (by kernel_rfl)) (fun _ _ _ h => h) (Or.inl ⟨by rfl, ?_⟩) ?_ ?_
     rotate_left
     · intro w'; go_simp
       with_reducible rfl
     rotate_left
     · simp only [Act.put, sa, sb, sc, i64_w, i32_w]
       rfl
     refine pure_ (i := 27) (N := some 56) (v := ?_) (a' := ?_) #[true, true, true, true, true, true, true, true, true, true, true, true, true, true, true, true, true, true, true, true, true, true, true, true, true, true, true, true, false] rfl rfl (any_of HT_.out (by kernel_rfl)) (fun _ _ _ h => h) (Or.inl ⟨by rfl, ?_⟩) ?_ ?_
     rotate_left
     · intro w'; go_simp
       with_reducible rfl
     rotate_left
     · simp only [Act.put, sa, sb, sc, i64_w, i32_w]
       rfl
     refine pure_ (i := 28) (N := some 57) (v := ?_) (a' := ?_) #[true, true, true, true, true, true, true, true, true, true, true, true, true, true, true, true, true, true, true, true, true, true, true, true, true, true, true, true, true] rfl rfl (any_of HT_.out (by kernel_rfl)) (fun _ _ _ h => h) (Or.inl ⟨by rfl, ?_⟩) ?_ ?_
     rotate_left
     · intro w'; go_simp
       with_reducible rfl
     rotate_left
     · simp only [Act.put, sa, sb, sc, i64_w, i32_w]
       rfl
     refine done_ (done_of HT_.out (by kernel_rfl)) ?_
     try go_wp2
     go_ret
     exact ⟨by first | rfl | (simp [errW_none, errW_some] <;> rfl) | (simp only [← hji14]; first | rfl | (simp [errW_none, errW_some] <;> rfl)) | (simp [*, errW_none, errW_some] <;> rfl) | (simp [wrap64]; done) | (simp [*, wrap64]; done), belA⟩

end Go.Proofs.Ytogdhclomgafdaa.PFnDealt

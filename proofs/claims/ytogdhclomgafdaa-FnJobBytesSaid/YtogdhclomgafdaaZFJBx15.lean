-- Written by a program of this session (the print of the kit with contracts of this session's own added)
import Derived.Test.YtogdhclomgafdaaZFJBx4
import Derived.Test.YtogdhclomgafdaaZFJBx14
set_option maxHeartbeats 8000000
set_option maxRecDepth 100000
namespace Go.Proofs.Ytogdhclomgafdaa.PFnJobBytes
open Go.RowKit Go.Proofs.YtogdhclomgafdaaW.PrintWords Go.Proofs.YtogdhclomgafdaaW.PrintLast Go.Proofs.YtogdhclomgafdaaW.PrintMore Go.Proofs.YtogdhclomgafdaaW.PrintPack Go.Proofs.YtogdhclomgafdaaW.PrintPack
set_option linter.unusedVariables false
set_option linter.unusedSimpArgs false

def laws_sameJob.f (k : Nat) (a0_0 : Int) (a0_1 : Int) (l0_2 : List Int) (l0_3 : List Int) (a0_4 : Int) (a1_0 : Int) (a1_1 : Int) (l1_2 : List Int) (l1_3 : List Int) (a1_4 : Int) : Option (Bool) := if a0_0 = a1_0 then (if a0_1 = a1_1 then (if a0_4 = a1_4 then ((laws_same.f k l0_2 l1_2).bind fun t644 => (if t644 = true then ((laws_same.f k l0_3 l1_3).bind fun t645 => (some t645)) else (some false))) else (some false)) else (some false)) else (some false)
theorem laws_sameJob.mono : ∀ a0 a1 a2 a3 a4 a5 a6 a7 a8 a9 k, LeO (laws_sameJob.f k a0 a1 a2 a3 a4 a5 a6 a7 a8 a9) (laws_sameJob.f (k + 1) a0 a1 a2 a3 a4 a5 a6 a7 a8 a9) := by
 intro a0 a1 a2 a3 a4 a5 a6 a7 a8 a9 k
 unfold laws_sameJob.f
 exact (by repeat' (with_reducible first | exact laws_same.mono _ _ _ | exact LeO.refl _ | exact LeO.none _ | refine LeO.ite ?_ ?_ | refine LeO.bind ?_ (fun _ => ?_)))
theorem laws_sameJob.calls (k : Nat) (a0_0 : Int) (a0_1 : Int) (A0_2 : Option Addr) (c0_2 : Nat) (l0_2 : List Int) (A0_3 : Option Addr) (c0_3 : Nat) (l0_3 : List Int) (a0_4 : Int) (a1_0 : Int) (a1_1 : Int) (A1_2 : Option Addr) (c1_2 : Nat) (l1_2 : List Int) (A1_3 : Option Addr) (c1_3 : Nat) (l1_3 : List Int) (a1_4 : Int) (r : Bool) (w : World) (hr0_2 : Kd.C (Kd.int .i64) w A0_2 l0_2.length l0_2) (hc0_2 : l0_2.length ≤ c0_2) (hr0_3 : Kd.C (Kd.int .i64) w A0_3 l0_3.length l0_3) (hc0_3 : l0_3.length ≤ c0_3) (hr1_2 : Kd.C (Kd.int .i64) w A1_2 l1_2.length l1_2) (hc1_2 : l1_2.length ≤ c1_2) (hr1_3 : Kd.C (Kd.int .i64) w A1_3 l1_3.length l1_3) (hc1_3 : l1_3.length ≤ c1_3) (h : laws_sameJob.f k a0_0 a0_1 l0_2 l0_3 a0_4 a1_0 a1_1 l1_2 l1_3 a1_4 = some r) :
 Calls Try.prog 48 #[.agg #[.int .i64 a0_0, .int .i64 a0_1, .slice A0_2 l0_2.length c0_2, .slice A0_3 l0_3.length c0_3, .int .i64 a0_4], .agg #[.int .i64 a1_0, .int .i64 a1_1, .slice A1_2 l1_2.length c1_2, .slice A1_3 l1_3.length c1_3, .int .i64 a1_4]] w fun e w' => e = .returned (.bool r) ∧ Below w.heap.size w w' := by
 have hu49 := Try.underlying49; have HR0_2 := ak hr0_2; have HC0_2 := ak hc0_2; clear hr0_2 hc0_2; have HR0_3 := ak hr0_3; have HC0_3 := ak hc0_3; clear hr0_3 hc0_3; have HR1_2 := ak hr1_2; have HC1_2 := ak hc1_2; clear hr1_2 hc1_2; have HR1_3 := ak hr1_3; have HC1_3 := ak hc1_3; clear hr1_3 hc1_3; have HB := ak (Below.refl w.heap.size w); have H : (if a0_0 = a1_0 then (if a0_1 = a1_1 then (if a0_4 = a1_4 then ((laws_same.f k l0_2 l1_2).bind fun t644 => (if t644 = true then ((laws_same.f k l0_3 l1_3).bind fun t645 => (some t645)) else (some false))) else (some false)) else (some false)) else (some false)) = some r := h; clear h
 by_cases c3 : a0_0 = a1_0; rotate_left
 · rw [if_neg c3] at H; have c3b0 : (a0_0 == a1_0) = false := beq_eq_false_iff_ne.mpr c3; have c3b1 : (a0_0 != a1_0) = true := bne_iff_ne.mpr c3; obtain rfl := Option.some.inj H; go_enter Try.func48, Try.ntmps48
   go_wp2_with (first | ((with_reducible refine gate_dst (N := 2) rfl ?_); refine boxA 2 #[.int .i64 a0_0, .int .i64 a0_1, .slice A0_2 l0_2.length c0_2, .slice A0_3 l0_3.length c0_3, .int .i64 a0_4] 49 ?_; intro gb642 hg w29 hbox hb; have BK642 := ak hbox; have GW642 := leA (w := w) hg; have GE642 := leA (w := w) hg; replace HB := bS hb; clear hb hbox hg) | ((with_reducible refine gate_dst (N := 3) rfl ?_); refine boxA 3 #[.int .i64 a1_0, .int .i64 a1_1, .slice A1_2 l1_2.length c1_2, .slice A1_3 l1_3.length c1_3, .int .i64 a1_4] 49 ?_; intro gb643 hg w30 hbox hb; have BK643 := ak hbox; have GW643 := leA (w := w) hg; have GE643 := leA (w := w) hg; have NB642_643 := neL hg BK642; have NB643_642 := neG hg BK642; replace BK642 := bB BK642 hb; replace HB := bS hb; clear hb hbox hg; have hnb31 := NB642_643.out; have hnc31 := NB643_642.out; obtain ⟨_, _, _, _, _, _, _, _, _, _⟩ := cel5 BK642; obtain ⟨_, _, _, _, _, _, _, _, _, _⟩ := cel5 BK643))
   go_ret
   exact ⟨xq6, belA⟩
 rw [if_pos c3] at H; have c3b0 : (a0_0 == a1_0) = true := beq_iff_eq.mpr c3; have c3b1 : (a0_0 != a1_0) = false := bne_eq_false_iff_eq.mpr c3; clear c3
 by_cases c4 : a0_1 = a1_1; rotate_left
 · rw [if_neg c4] at H; have c4b0 : (a0_1 == a1_1) = false := beq_eq_false_iff_ne.mpr c4; have c4b1 : (a0_1 != a1_1) = true := bne_iff_ne.mpr c4; obtain rfl := Option.some.inj H; go_enter Try.func48, Try.ntmps48
   go_wp2_with (first | ((with_reducible refine gate_dst (N := 2) rfl ?_); refine boxA 2 #[.int .i64 a0_0, .int .i64 a0_1, .slice A0_2 l0_2.length c0_2, .slice A0_3 l0_3.length c0_3, .int .i64 a0_4] 49 ?_; intro gb642 hg w24 hbox hb; have BK642 := ak hbox; have GW642 := leA (w := w) hg; have GE642 := leA (w := w) hg; replace HB := bS hb; clear hb hbox hg) | ((with_reducible refine gate_dst (N := 3) rfl ?_); refine boxA 3 #[.int .i64 a1_0, .int .i64 a1_1, .slice A1_2 l1_2.length c1_2, .slice A1_3 l1_3.length c1_3, .int .i64 a1_4] 49 ?_; intro gb643 hg w25 hbox hb; have BK643 := ak hbox; have GW643 := leA (w := w) hg; have GE643 := leA (w := w) hg; have NB642_643 := neL hg BK642; have NB643_642 := neG hg BK642; replace BK642 := bB BK642 hb; replace HB := bS hb; clear hb hbox hg; have hnb26 := NB642_643.out; have hnc26 := NB643_642.out; obtain ⟨_, _, _, _, _, _, _, _, _, _⟩ := cel5 BK642; obtain ⟨_, _, _, _, _, _, _, _, _, _⟩ := cel5 BK643))
   go_ret
   exact ⟨xq6, belA⟩
 rw [if_pos c4] at H; have c4b0 : (a0_1 == a1_1) = true := beq_iff_eq.mpr c4; have c4b1 : (a0_1 != a1_1) = false := bne_eq_false_iff_eq.mpr c4; clear c4
 by_cases c5 : a0_4 = a1_4; rotate_left
 · rw [if_neg c5] at H; have c5b0 : (a0_4 == a1_4) = false := beq_eq_false_iff_ne.mpr c5; have c5b1 : (a0_4 != a1_4) = true := bne_iff_ne.mpr c5; obtain rfl := Option.some.inj H; go_enter Try.func48, Try.ntmps48
   go_wp2_with (first | ((with_reducible refine gate_dst (N := 2) rfl ?_); refine boxA 2 #[.int .i64 a0_0, .int .i64 a0_1, .slice A0_2 l0_2.length c0_2, .slice A0_3 l0_3.length c0_3, .int .i64 a0_4] 49 ?_; intro gb642 hg w19 hbox hb; have BK642 := ak hbox; have GW642 := leA (w := w) hg; have GE642 := leA (w := w) hg; replace HB := bS hb; clear hb hbox hg) | ((with_reducible refine gate_dst (N := 3) rfl ?_); refine boxA 3 #[.int .i64 a1_0, .int .i64 a1_1, .slice A1_2 l1_2.length c1_2, .slice A1_3 l1_3.length c1_3, .int .i64 a1_4] 49 ?_; intro gb643 hg w20 hbox hb; have BK643 := ak hbox; have GW643 := leA (w := w) hg; have GE643 := leA (w := w) hg; have NB642_643 := neL hg BK642; have NB643_642 := neG hg BK642; replace BK642 := bB BK642 hb; replace HB := bS hb; clear hb hbox hg; have hnb21 := NB642_643.out; have hnc21 := NB643_642.out; obtain ⟨_, _, _, _, _, _, _, _, _, _⟩ := cel5 BK642; obtain ⟨_, _, _, _, _, _, _, _, _, _⟩ := cel5 BK643))
   go_ret
   exact ⟨xq6, belA⟩
 rw [if_pos c5] at H; have c5b0 : (a0_4 == a1_4) = true := beq_iff_eq.mpr c5; have c5b1 : (a0_4 != a1_4) = false := bne_eq_false_iff_eq.mpr c5; clear c5; replace H := Option.bind_eq_some_iff.mp H; obtain ⟨t644, A60, H⟩ := H; (try dsimp only at H); have A6 := ak A60; clear A60
 by_cases c7 : t644 = true; rotate_left
 · replace c7 := Bool.eq_false_iff.mpr c7; subst c7; have H1 : (some false) = some r := by rw [if_neg (show ¬ (false = true) by decide)] at H; exact H
   clear H; have H := H1; clear H1; obtain rfl := Option.some.inj H; go_enter Try.func48, Try.ntmps48
   go_wp2_with (first | ((with_reducible refine gate_dst (N := 2) rfl ?_); refine boxA 2 #[.int .i64 a0_0, .int .i64 a0_1, .slice A0_2 l0_2.length c0_2, .slice A0_3 l0_3.length c0_3, .int .i64 a0_4] 49 ?_; intro gb642 hg w14 hbox hb; have BK642 := ak hbox; have GW642 := leA (w := w) hg; have GE642 := leA (w := w) hg; replace HB := bS hb; clear hb hbox hg) | ((with_reducible refine gate_dst (N := 3) rfl ?_); refine boxA 3 #[.int .i64 a1_0, .int .i64 a1_1, .slice A1_2 l1_2.length c1_2, .slice A1_3 l1_3.length c1_3, .int .i64 a1_4] 49 ?_; intro gb643 hg w15 hbox hb; have BK643 := ak hbox; have GW643 := leA (w := w) hg; have GE643 := leA (w := w) hg; have NB642_643 := neL hg BK642; have NB643_642 := neG hg BK642; replace BK642 := bB BK642 hb; replace HB := bS hb; clear hb hbox hg; have hnb16 := NB642_643.out; have hnc16 := NB643_642.out; obtain ⟨_, _, _, _, _, _, _, _, _, _⟩ := cel5 BK642; obtain ⟨_, _, _, _, _, _, _, _, _, _⟩ := cel5 BK643) | (go_at_call 88; (with_reducible refine (laws_same.calls k _ _ l0_2 _ _ l1_2 false _ ?side1 ?side2 ?side3 ?side4 A6.out).mono ?_); (case side1 => exact cA (Kd.C_below HR0_2.out HB.out)); (case side2 => exact HC0_2.out); (case side3 => exact cA (Kd.C_below HR1_2.out HB.out)); (case side4 => exact HC1_2.out); rintro e w' ⟨rfl, ⟨nd, rfl⟩⟩))
   go_ret
   exact ⟨xq6, belA⟩
 subst c7; have H1 : ((laws_same.f k l0_3 l1_3).bind fun t645 => (some t645)) = some r := by rw [if_pos rfl] at H; exact H
 clear H; have H := H1; clear H1; replace H := Option.bind_eq_some_iff.mp H; obtain ⟨t645, A80, H⟩ := H; (try dsimp only at H); have A8 := ak A80; clear A80; obtain rfl := Option.some.inj H; go_enter Try.func48, Try.ntmps48
 go_wp2_with (first | ((with_reducible refine gate_dst (N := 2) rfl ?_); refine boxA 2 #[.int .i64 a0_0, .int .i64 a0_1, .slice A0_2 l0_2.length c0_2, .slice A0_3 l0_3.length c0_3, .int .i64 a0_4] 49 ?_; intro gb642 hg w9 hbox hb; have BK642 := ak hbox; have GW642 := leA (w := w) hg; have GE642 := leA (w := w) hg; replace HB := bS hb; clear hb hbox hg) | ((with_reducible refine gate_dst (N := 3) rfl ?_); refine boxA 3 #[.int .i64 a1_0, .int .i64 a1_1, .slice A1_2 l1_2.length c1_2, .slice A1_3 l1_3.length c1_3, .int .i64 a1_4] 49 ?_; intro gb643 hg w10 hbox hb; have BK643 := ak hbox; have GW643 := leA (w := w) hg; have GE643 := leA (w := w) hg; have NB642_643 := neL hg BK642; have NB643_642 := neG hg BK642; replace BK642 := bB BK642 hb; replace HB := bS hb; clear hb hbox hg; have hnb11 := NB642_643.out; have hnc11 := NB643_642.out; obtain ⟨_, _, _, _, _, _, _, _, _, _⟩ := cel5 BK642; obtain ⟨_, _, _, _, _, _, _, _, _, _⟩ := cel5 BK643) | (go_at_call 88; (with_reducible refine (laws_same.calls k _ _ l0_2 _ _ l1_2 true _ ?side1 ?side2 ?side3 ?side4 A6.out).mono ?_); (case side1 => exact cA (Kd.C_below HR0_2.out HB.out)); (case side2 => exact HC0_2.out); (case side3 => exact cA (Kd.C_below HR1_2.out HB.out)); (case side4 => exact HC1_2.out); rintro e w' ⟨rfl, ⟨nd, rfl⟩⟩) | (go_at_call 88; (with_reducible refine (laws_same.calls k _ _ l0_3 _ _ l1_3 t645 _ ?side1 ?side2 ?side3 ?side4 A8.out).mono ?_); (case side1 => exact cA (Kd.C_below HR0_3.out belA)); (case side2 => exact HC0_3.out); (case side3 => exact cA (Kd.C_below HR1_3.out belA)); (case side4 => exact HC1_3.out); rintro e w' ⟨rfl, ⟨nd, rfl⟩⟩))
 go_ret
 exact ⟨xq6, belA⟩

def spec_l01Bytes.l0 : Nat → List Int → List Int → Int → Option (List Int)
 | 0, _, _, _ => none
 | k + 1, x0, x3, x4 => if x4 < (x0.length : Int) then (if 0 ≤ x4 then (if x3.length < 140737488355328 then (spec_l01Bytes.l0 k x0 (x3 ++ [rd x0 x4]) (wrap64 (x4 + 1))) else (none)) else (none)) else (some x3)
def spec_l01Bytes.f (k : Nat) (l0 : List Int) : Option (List Int) := spec_l01Bytes.l0 k l0 (([] : List Int)) 0
theorem spec_l01Bytes.mono_l : ∀ k, (∀ y0 y1 y2, LeO (spec_l01Bytes.l0 k y0 y1 y2) (spec_l01Bytes.l0 (k + 1) y0 y1 y2))
 | 0 => fun _ _ _ r h => by simp [spec_l01Bytes.l0] at h
 | k + 1 => by
  have ih0 := spec_l01Bytes.mono_l k
  · intro y0 y1 y2; unfold spec_l01Bytes.l0; exact xq18
theorem spec_l01Bytes.mono : ∀ a0 k, LeO (spec_l01Bytes.f k a0) (spec_l01Bytes.f (k + 1) a0) := by
 intro a0 k; have ih0 := spec_l01Bytes.mono_l k
 unfold spec_l01Bytes.f
 exact xq18
theorem spec_l01Bytes.calls (k : Nat) (A0 : Option Addr) (c0 : Nat) (l0 : List Int) (r : List Int) (w : World) (hr0 : Kd.C (Kd.int .u8) w A0 l0.length l0) (hc0 : l0.length ≤ c0) (h : spec_l01Bytes.f k l0 = some r) :
 Calls Try.prog 108 #[.slice A0 l0.length c0] w fun e w' => ∃ v0_ : Value, e = .returned (v0_) ∧ Kd.R (Kd.int .u8) 5 w' w.heap.size (fun _ => True) v0_ r ∧ Below w.heap.size w w' := by
 have HR0 := ak hr0; have HC0 := ak hc0; clear hr0 hc0; have HB := ak (Below.refl w.heap.size w); have H : (spec_l01Bytes.l0 k l0 (([] : List Int)) 0) = some r := h; clear h; obtain ⟨y646, hyq⟩ : ∃ y_ : List Int, y_ = (([] : List Int)) := ⟨_, rfl⟩; replace H : (spec_l01Bytes.l0 k l0 y646 0) = some r := by first | (rw [hyq]; with_reducible exact H) | (have H2_ := (Option.bind_some _ _).symm.trans H; rw [hyq]; with_reducible exact H2_) | (have H2_ := (Option.bind_some _ _).symm.trans H; with_reducible exact H2_) | with_reducible exact H | (rw [hyq]; exact H) | exact H
 have Ny646 := ak hyq; clear hyq; have H' := ak H; clear H; go_enter Try.func108, Try.ntmps108
 go_wp2_with (first | ((with_reducible refine gate_dst (N := 5) rfl ?_); refine Kd.R_lit (Kd.int .u8) _ 5 ?hg (N := 5) ?hd (xs := ([] : List Int)) (inner := []) (ok := fun _ => True) (okp := fun _ => True) ?hr ?hp (fun _ hk => hk) trivial (Below.refl _ _) (Nat.le_refl _) (by simp) ?_; (case hd => rfl); (case hg => rfl); (case hr => exact xq11); (case hp => exact (Reps.none _ _)); intro v647 w2 ho3 hb hg_ hnew_; clear hg_ hnew_; (first | rw [← Ny646.out] at ho3 | (simp only [Int.reduceToNat] at ho3; rw [← Ny646.out] at ho3)); have HO648 := rL ho3; replace HB := bS hb; clear hb ho3))
 go_loopg [3, 4] k (fun kq v3 v4 w' => ∃ (x3_1 : List Int) (x4_1 : Int), v4 = .int .i64 x4_1 ∧ Aside0 (spec_l01Bytes.l0 kq l0 x3_1 x4_1 = some r) ∧ Aside0 (kq ≤ k) ∧ Aside0 (Kd.R (Kd.int .u8) 5 w' w.heap.size (fun _ => True) v3 x3_1) ∧ Aside0 (Below w.heap.size w w'))
 case atStart => exact ⟨(y646), (0), eqA, H', ⟨Nat.le_refl _⟩, ⟨rA HO648⟩, ⟨belA⟩⟩
 case round =>
  clear H'; obtain ⟨x3_1, x4_1, rfl, HA, HK1, HO_3, HB⟩ := hrel
  cases gk with
  | zero => exact absurd HA.out (by simp [spec_l01Bytes.l0])
  | succ k1 =>
   have H := HA.out; clear HA; simp only [spec_l01Bytes.l0] at H
   by_cases c4 : x4_1 < (l0.length : Int); rotate_left
   · rw [if_neg c4] at H; have c4b0 := decide_eq_false c4; clear c4; obtain rfl := Option.some.inj H; go_wp2
     go_ret
     exact ⟨_, xq6, xq51, belA⟩
   rw [if_pos c4] at H; have c4b0 := decide_eq_true c4; clear c4
   by_cases c5 : 0 ≤ x4_1; rotate_left
   · rw [if_neg c5] at H; exact absurd H (by simp)
   rw [if_pos c5] at H; have c5b0 := decide_eq_true c5; clear c5
   by_cases c6 : x3_1.length < 140737488355328; rotate_left
   · rw [if_neg c6] at H; exact absurd H (by simp)
   rw [if_pos c6] at H; have LMc6 := ak c6; clear c6; obtain ⟨y650, hyq⟩ : ∃ y_ : List Int, y_ = (x3_1 ++ [rd l0 x4_1]) := ⟨_, rfl⟩; replace H : (spec_l01Bytes.l0 k1 l0 y650 (wrap64 (x4_1 + 1))) = some r := by first | (rw [hyq]; with_reducible exact H) | (have H2_ := (Option.bind_some _ _).symm.trans H; rw [hyq]; with_reducible exact H2_) | (have H2_ := (Option.bind_some _ _).symm.trans H; with_reducible exact H2_) | with_reducible exact H | (rw [hyq]; exact H) | exact H
   have Ny650 := ak hyq; clear hyq; have H' := ak H; clear H; have p649 : 0 ≤ (x4_1 : Int) := odA; have q649 : x4_1 < (l0.length : Int) := odA; obtain ⟨ad649, e649, hx649_0⟩ := Kd.at_int HR0.out x4_1 p649 q649
   cases e649
   try replace hx649_0 := cB HB hx649_0
   replace p649 := eq_true p649; replace q649 := eq_true q649; go_wp2_with (first | ((with_reducible refine gate_builtin (b := .append) (xs := #[.tmp 12, .tmp 17]) rfl ?_); at_builtin; refine Kd.R_append (Kd.int .u8) (w0 := w) w.heap.size rfl (.tmp 12) (.tmp 17) 22 5 (.int .u8 0) 1 rfl Try.underlying22 info5 rfl (by decide) (by omega) u3 x3_1 (rd l0 x4_1) [.int .u8 (rd l0 x4_1)] (fun _ => True) (fun _ => False) rfl rfl ?aP (fun _ hk => hk.elim) ?aF ?aO ?aB ?aS ?aL ?_; (case aP => exact rfl); (case aB => exact belA); (case aF => exact (fun _ _ => trivial)); (case aO => exact (rF HO_3)); (case aS => exact (below_size belA)); (case aL => have := LMc6.out; omega); intro v651 w7 ho hb hg hat; rw [← Ny650.out] at ho; have HO652 := ak ho; replace HB := ak hb; clear HO_3; clear ho hb hg hat))
   go_roundg k1
   case measure => have := HK1.out; omega
   case rel => exact ⟨(y650), (wrap64 (x4_1 + 1)), eqA, H', ⟨xq19⟩, ⟨rA HO652⟩, ⟨belA⟩⟩

def spec_l01Join.l0 : Nat → List Int → List Int → Int → Option (List Int)
 | 0, _, _, _ => none
 | k + 1, x1, x5, x6 => if x6 < (x1.length : Int) then (if 0 ≤ x6 then (if x5.length < 140737488355328 then (spec_l01Join.l0 k x1 (x5 ++ [rd x1 x6]) (wrap64 (x6 + 1))) else (none)) else (none)) else (some x5)
def spec_l01Join.f (k : Nat) (l0 : List Int) (l1 : List Int) : Option (List Int) := (spec_l01Bytes.f k l0).bind fun t653 => (spec_l01Join.l0 k l1 t653 0)
theorem spec_l01Join.mono_l : ∀ k, (∀ y0 y1 y2, LeO (spec_l01Join.l0 k y0 y1 y2) (spec_l01Join.l0 (k + 1) y0 y1 y2))
 | 0 => fun _ _ _ r h => by simp [spec_l01Join.l0] at h
 | k + 1 => by
  have ih0 := spec_l01Join.mono_l k
  · intro y0 y1 y2; unfold spec_l01Join.l0; exact xq83
theorem spec_l01Join.mono : ∀ a0 a1 k, LeO (spec_l01Join.f k a0 a1) (spec_l01Join.f (k + 1) a0 a1) := by
 intro a0 a1 k; have ih0 := spec_l01Join.mono_l k
 unfold spec_l01Join.f
 exact xq83
theorem spec_l01Join.calls (k : Nat) (A0 : Option Addr) (c0 : Nat) (l0 : List Int) (A1 : Option Addr) (c1 : Nat) (l1 : List Int) (r : List Int) (w : World) (hr0 : Kd.C (Kd.int .u8) w A0 l0.length l0) (hc0 : l0.length ≤ c0) (hr1 : Kd.C (Kd.int .u8) w A1 l1.length l1) (hc1 : l1.length ≤ c1) (h : spec_l01Join.f k l0 l1 = some r) :
 Calls Try.prog 96 #[.slice A0 l0.length c0, .slice A1 l1.length c1] w fun e w' => ∃ v0_ : Value, e = .returned (v0_) ∧ Kd.R (Kd.int .u8) 5 w' w.heap.size (fun _ => True) v0_ r ∧ Below w.heap.size w w' := by
 have HR0 := ak hr0; have HC0 := ak hc0; clear hr0 hc0; have HR1 := ak hr1; have HC1 := ak hc1; clear hr1 hc1; have HB := ak (Below.refl w.heap.size w); have H : ((spec_l01Bytes.f k l0).bind fun t653 => (spec_l01Join.l0 k l1 t653 0)) = some r := h; clear h; replace H := Option.bind_eq_some_iff.mp H; obtain ⟨t653, A30, H⟩ := H; (try dsimp only at H); have A3 := ak A30; clear A30; have H' := ak H; clear H; go_enter Try.func96, Try.ntmps96
 go_wp2_with (first | ((with_reducible refine gate_callee (f := 108) rfl ?_); refine goB 8 Try.func108 #[.slice A0 l0.length c0] rfl ?_; (with_reducible refine (spec_l01Bytes.calls k _ _ l0 t653 _ ?side1 ?side2 A3.out).mono ?_); (case side1 => exact cA HR0.out); (case side2 => exact HC0.out); rintro e w4 ⟨v654, rfl, ho0, hb⟩; refine ⟨_, rfl, ?_⟩; have HO655 := rL ho0; replace HB := bS hb; (try clear hb ho0)))
 go_loopg [5, 6] k (fun kq v5 v6 w' => ∃ (x5_1 : List Int) (x6_1 : Int), v6 = .int .i64 x6_1 ∧ Aside0 (spec_l01Join.l0 kq l1 x5_1 x6_1 = some r) ∧ Aside0 (kq ≤ k) ∧ Aside0 (Kd.R (Kd.int .u8) 5 w' w.heap.size (fun _ => True) v5 x5_1) ∧ Aside0 (Below w.heap.size w w'))
 case atStart => exact ⟨(t653), (0), eqA, H', ⟨Nat.le_refl _⟩, ⟨rA HO655⟩, ⟨belA⟩⟩
 case round =>
  clear H'; obtain ⟨x5_1, x6_1, rfl, HA, HK1, HO_5, HB⟩ := hrel
  cases gk with
  | zero => exact absurd HA.out (by simp [spec_l01Join.l0])
  | succ k1 =>
   have H := HA.out; clear HA; simp only [spec_l01Join.l0] at H
   by_cases c5 : x6_1 < (l1.length : Int); rotate_left
   · rw [if_neg c5] at H; have c5b0 := decide_eq_false c5; clear c5; obtain rfl := Option.some.inj H; go_wp2
     go_ret
     exact ⟨_, xq6, xq53, belA⟩
   rw [if_pos c5] at H; have c5b0 := decide_eq_true c5; clear c5
   by_cases c6 : 0 ≤ x6_1; rotate_left
   · rw [if_neg c6] at H; exact absurd H (by simp)
   rw [if_pos c6] at H; have c6b0 := decide_eq_true c6; clear c6
   by_cases c7 : x5_1.length < 140737488355328; rotate_left
   · rw [if_neg c7] at H; exact absurd H (by simp)
   rw [if_pos c7] at H; have LMc7 := ak c7; clear c7; obtain ⟨y657, hyq⟩ : ∃ y_ : List Int, y_ = (x5_1 ++ [rd l1 x6_1]) := ⟨_, rfl⟩; replace H : (spec_l01Join.l0 k1 l1 y657 (wrap64 (x6_1 + 1))) = some r := by first | (rw [hyq]; with_reducible exact H) | (have H2_ := (Option.bind_some _ _).symm.trans H; rw [hyq]; with_reducible exact H2_) | (have H2_ := (Option.bind_some _ _).symm.trans H; with_reducible exact H2_) | with_reducible exact H | (rw [hyq]; exact H) | exact H
   have Ny657 := ak hyq; clear hyq; have H' := ak H; clear H; have p656 : 0 ≤ (x6_1 : Int) := odA; have q656 : x6_1 < (l1.length : Int) := odA; obtain ⟨ad656, e656, hx656_0⟩ := Kd.at_int HR1.out x6_1 p656 q656
   cases e656
   try replace hx656_0 := cB HB hx656_0
   replace p656 := eq_true p656; replace q656 := eq_true q656; go_wp2_with (first | ((with_reducible refine gate_builtin (b := .append) (xs := #[.tmp 15, .tmp 20]) rfl ?_); at_builtin; refine Kd.R_append (Kd.int .u8) (w0 := w) w.heap.size rfl (.tmp 15) (.tmp 20) 22 5 (.int .u8 0) 1 rfl Try.underlying22 info5 rfl (by decide) (by omega) u5 x5_1 (rd l1 x6_1) [.int .u8 (rd l1 x6_1)] (fun _ => True) (fun _ => False) rfl rfl ?aP (fun _ hk => hk.elim) ?aF ?aO ?aB ?aS ?aL ?_; (case aP => exact rfl); (case aB => exact belA); (case aF => exact (fun _ _ => trivial)); (case aO => exact (rF HO_5)); (case aS => exact (below_size belA)); (case aL => have := LMc7.out; omega); intro v658 w8 ho hb hg hat; rw [← Ny657.out] at ho; have HO659 := ak ho; replace HB := ak hb; clear HO_5; clear ho hb hg hat))
   go_roundg k1
   case measure => have := HK1.out; omega
   case rel => exact ⟨(y657), (wrap64 (x6_1 + 1)), eqA, H', ⟨xq19⟩, ⟨rA HO659⟩, ⟨belA⟩⟩

mutual
def spec_PutNumber.j0 : Nat → List Int → Int → Option (List Int)
 | 0, _, _ => none
 | k + 1, x3, x4 => spec_PutNumber.l0 k x3 x4
def spec_PutNumber.l0 : Nat → List Int → Int → Option (List Int)
 | 0, _, _ => none
 | k + 1, x3, x4 => if x4 ≥ 128 then (if x3.length < 140737488355328 then (spec_PutNumber.l0 k (x3 ++ [(wrap64 (128 + (Int.tmod x4 128))) % 256]) (wrap64 (Int.tdiv x4 128))) else (none)) else (if x3.length < 140737488355328 then (some (x3 ++ [(x4) % 256])) else (none))
end
def spec_PutNumber.f (k : Nat) (a0 : Int) : Option (List Int) := (some (([] : List Int) : List Int)).bind fun y660 => ((spec_l01In.f a0 (-1099511627776) 1099511627776).bind fun t663 => (if t663 = true then (if a0 < 0 then (spec_PutNumber.j0 k y660 (wrap64 ((wrap64 ((-2) * a0)) - 1))) else (spec_PutNumber.j0 k y660 (wrap64 (2 * a0)))) else (some ([] : List Int))))
theorem spec_PutNumber.mono_l : ∀ k, (∀ y0 y1, LeO (spec_PutNumber.j0 k y0 y1) (spec_PutNumber.j0 (k + 1) y0 y1)) ∧ (∀ y0 y1, LeO (spec_PutNumber.l0 k y0 y1) (spec_PutNumber.l0 (k + 1) y0 y1))
 | 0 => ⟨fun _ _ r h => by simp [spec_PutNumber.j0] at h, fun _ _ r h => by simp [spec_PutNumber.l0] at h⟩
 | k + 1 => by
  obtain ⟨ih0, ih1⟩ := spec_PutNumber.mono_l k; refine ⟨?_, ?_⟩
  · intro y0 y1; unfold spec_PutNumber.j0; exact xq60
  · intro y0 y1; unfold spec_PutNumber.l0; exact xq60
theorem spec_PutNumber.mono : ∀ a0 k, LeO (spec_PutNumber.f k a0) (spec_PutNumber.f (k + 1) a0) := by
 intro a0 k; obtain ⟨ih0, ih1⟩ := spec_PutNumber.mono_l k
 unfold spec_PutNumber.f
 exact xq60
theorem spec_PutNumber.calls (k : Nat) (a0 : Int) (r : List Int) (w : World) (h : spec_PutNumber.f k a0 = some r) :
 Calls Try.prog 116 #[.int .i64 a0] w fun e w' => ∃ v0_ : Value, e = .returned (v0_) ∧ Kd.R (Kd.int .u8) 5 w' w.heap.size (fun _ => True) v0_ r ∧ Below w.heap.size w w' := by
 have HB := ak (Below.refl w.heap.size w); have H : ((some (([] : List Int) : List Int)).bind fun y660 => ((spec_l01In.f a0 (-1099511627776) 1099511627776).bind fun t663 => (if t663 = true then (if a0 < 0 then (spec_PutNumber.j0 k y660 (wrap64 ((wrap64 ((-2) * a0)) - 1))) else (spec_PutNumber.j0 k y660 (wrap64 (2 * a0)))) else (some ([] : List Int))))) = some r := h; clear h; obtain ⟨y660, hyq⟩ : ∃ y_ : List Int, y_ = (([] : List Int)) := ⟨_, rfl⟩; replace H : ((spec_l01In.f a0 (-1099511627776) 1099511627776).bind fun t663 => (if t663 = true then (if a0 < 0 then (spec_PutNumber.j0 k y660 (wrap64 ((wrap64 ((-2) * a0)) - 1))) else (spec_PutNumber.j0 k y660 (wrap64 (2 * a0)))) else (some ([] : List Int)))) = some r := by first | (rw [hyq]; with_reducible exact H) | (have H2_ := (Option.bind_some _ _).symm.trans H; rw [hyq]; with_reducible exact H2_) | (have H2_ := (Option.bind_some _ _).symm.trans H; with_reducible exact H2_) | with_reducible exact H | (rw [hyq]; exact H) | exact H
 have Ny660 := ak hyq; clear hyq; replace H := Option.bind_eq_some_iff.mp H; obtain ⟨t663, A20, H⟩ := H; (try dsimp only at H); have A2 := ak A20; clear A20
 by_cases c3 : t663 = true; rotate_left
 · replace c3 := Bool.eq_false_iff.mpr c3; subst c3; have H1 : (some ([] : List Int)) = some r := by rw [if_neg (show ¬ (false = true) by decide)] at H; exact H
   clear H; have H := H1; clear H1; obtain rfl := Option.some.inj H; go_enter Try.func116, Try.ntmps116
   go_wp2_with (first | ((with_reducible refine gate_dst (N := 5) rfl ?_); refine Kd.R_lit (Kd.int .u8) _ 5 ?hg (N := 5) ?hd (xs := ([] : List Int)) (inner := []) (ok := fun _ => True) (okp := fun _ => True) ?hr ?hp (fun _ hk => hk) trivial (Below.refl _ _) (Nat.le_refl _) (by simp) ?_; (case hd => rfl); (case hg => rfl); (case hr => exact xq11); (case hp => exact (Reps.none _ _)); intro v661 w13 ho14 hb hg_ hnew_; clear hg_ hnew_; (first | rw [← Ny660.out] at ho14 | (simp only [Int.reduceToNat] at ho14; rw [← Ny660.out] at ho14)); have HO662 := rL ho14; replace HB := bS hb; clear hb ho14) | ((with_reducible refine gate_callee (f := 62) rfl ?_); refine goB 7 Try.func62 #[.int .i64 a0, .int .i64 (-1099511627776), .int .i64 1099511627776] rfl ?_; (with_reducible refine (spec_l01In.calls a0 (-1099511627776) 1099511627776 false _ A2.out).mono ?_); rintro e w' ⟨rfl, ⟨nd, rfl⟩⟩; refine ⟨_, rfl, ?_⟩))
   go_ret
   exact ⟨_, xq6, xq16, belA⟩
 subst c3; have H1 : (if a0 < 0 then (spec_PutNumber.j0 k y660 (wrap64 ((wrap64 ((-2) * a0)) - 1))) else (spec_PutNumber.j0 k y660 (wrap64 (2 * a0)))) = some r := by rw [if_pos rfl] at H; exact H
 clear H; have H := H1; clear H1; have HC4 := ak H; clear H; go_enter Try.func116, Try.ntmps116
 go_upto_if 12 with (first | ((with_reducible refine gate_dst (N := 5) rfl ?_); refine Kd.R_lit (Kd.int .u8) _ 5 ?hg (N := 5) ?hd (xs := ([] : List Int)) (inner := []) (ok := fun _ => True) (okp := fun _ => True) ?hr ?hp (fun _ hk => hk) trivial (Below.refl _ _) (Nat.le_refl _) (by simp) ?_; (case hd => rfl); (case hg => rfl); (case hr => exact xq11); (case hp => exact (Reps.none _ _)); intro v661 w5 ho6 hb hg_ hnew_; clear hg_ hnew_; (first | rw [← Ny660.out] at ho6 | (simp only [Int.reduceToNat] at ho6; rw [← Ny660.out] at ho6)); have HO662 := rL ho6; replace HB := bS hb; clear hb ho6) | ((with_reducible refine gate_callee (f := 62) rfl ?_); refine goB 7 Try.func62 #[.int .i64 a0, .int .i64 (-1099511627776), .int .i64 1099511627776] rfl ?_; (with_reducible refine (spec_l01In.calls a0 (-1099511627776) 1099511627776 true _ A2.out).mono ?_); rintro e w' ⟨rfl, ⟨nd, rfl⟩⟩; refine ⟨_, rfl, ?_⟩))
 (try simp only [Act.put, sa, sb, sc])
 go_cut [4] (fun v4 wc => ∃ (kq : Nat) (x4_3 : Int), v4 = .int .i64 x4_3 ∧ Aside0 (spec_PutNumber.j0 kq y660 x4_3 = some r) ∧ Aside0 (kq ≤ k) ∧ Aside0 (Kd.R (Kd.int .u8) 5 wc w.heap.size (fun _ => True) v661 y660) ∧ Aside0 (Below w.heap.size w wc))
 case first =>
  have H := HC4.out; clear HC4
  by_cases c7 : a0 < 0; rotate_left
  · rw [if_neg c7] at H; have c7b0 := decide_eq_false c7; clear c7; (first | rw [c7b0] | (simp only [i64_w, i32_w]; rw [c7b0]) | skip)
    have H' := ak H; clear H; go_wp2
    go_meet
    case rel => exact ⟨_, (wrap64 (2 * a0)), eqA, H', ⟨xq12⟩, ⟨rA HO662⟩, ⟨belA⟩⟩
  rw [if_pos c7] at H; have c7b0 := decide_eq_true c7; clear c7; (first | rw [c7b0] | (simp only [i64_w, i32_w]; rw [c7b0]) | skip)
  have H' := ak H; clear H; go_wp2
  go_meet
  case rel => exact ⟨_, (wrap64 ((wrap64 ((-2) * a0)) - 1)), eqA, H', ⟨xq12⟩, ⟨rA HO662⟩, ⟨belA⟩⟩
 case rest =>
  clear HC4; obtain ⟨kq, x4_3, rfl, HA, HJ3, HO_3, HB⟩ := hcut
  cases kq with
  | zero => exact absurd HA.out (by simp [spec_PutNumber.j0])
  | succ kj3 =>
   have H := HA.out; clear HA; simp only [spec_PutNumber.j0] at H; have H' := ak H; clear H; go_wp2
   go_loopg [3, 4] kj3 (fun kq v3 v4 w' => ∃ (x3_2 : List Int) (x4_2 : Int), v4 = .int .i64 x4_2 ∧ Aside0 (spec_PutNumber.l0 kq x3_2 x4_2 = some r) ∧ Aside0 (kq ≤ kj3) ∧ Aside0 (Kd.R (Kd.int .u8) 5 w' w.heap.size (fun _ => True) v3 x3_2) ∧ Aside0 (Below w.heap.size w w'))
   case atStart => exact ⟨(y660), (x4_3), eqA, H', ⟨Nat.le_refl _⟩, ⟨rA HO_3⟩, ⟨belA⟩⟩
   case round =>
    clear H'; obtain ⟨x3_2, x4_2, rfl, HA, HK2, HO_3, HB⟩ := hrel
    cases gk with
    | zero => exact absurd HA.out (by simp [spec_PutNumber.l0])
    | succ k2 =>
     have H := HA.out; clear HA; simp only [spec_PutNumber.l0] at H
     by_cases c8 : x4_2 ≥ 128; rotate_left
     · rw [if_neg c8] at H; have c8b0 : decide (128 ≤ x4_2) = false := decide_eq_false c8; clear c8
       by_cases c11 : x3_2.length < 140737488355328; rotate_left
       · rw [if_neg c11] at H; exact absurd H (by simp)
       rw [if_pos c11] at H; have LMc11 := ak c11; clear c11; obtain ⟨y667, hyq⟩ : ∃ y_ : List Int, y_ = (x3_2 ++ [(x4_2) % 256]) := ⟨_, rfl⟩; replace H : (some y667) = some r := by first | (rw [hyq]; with_reducible exact H) | (have H2_ := (Option.bind_some _ _).symm.trans H; rw [hyq]; with_reducible exact H2_) | (have H2_ := (Option.bind_some _ _).symm.trans H; with_reducible exact H2_) | with_reducible exact H | (rw [hyq]; exact H) | exact H
       have Ny667 := ak hyq; clear hyq; obtain rfl := Option.some.inj H; go_wp2_with (first | ((with_reducible refine gate_builtin (b := .append) (xs := #[.tmp 27, .tmp 30]) rfl ?_); at_builtin; refine Kd.R_append (Kd.int .u8) (w0 := w) w.heap.size rfl (.tmp 27) (.tmp 30) 22 5 (.int .u8 0) 1 rfl Try.underlying22 info5 rfl (by decide) (by omega) u3 x3_2 ((x4_2) % 256) [.int .u8 ((x4_2) % 256)] (fun _ => True) (fun _ => False) rfl rfl ?aP (fun _ hk => hk.elim) ?aF ?aO ?aB ?aS ?aL ?_; (case aP => exact rfl); (case aB => exact belA); (case aF => exact (fun _ _ => trivial)); (case aO => exact (rF HO_3)); (case aS => exact (below_size belA)); (case aL => have := LMc11.out; omega); intro v668 w12 ho hb hg hat; rw [← Ny667.out] at ho; have HO669 := ak ho; replace HB := ak hb; clear HO_3; clear ho hb hg hat))
       go_ret
       exact ⟨_, xq6, by (with_reducible repeat (first | apply Kd.R_alloc | apply Kd.R_drewN | apply Kd.R_drew)); exact HO669.out, belA⟩
     rw [if_pos c8] at H; have c8b0 : decide (128 ≤ x4_2) = true := decide_eq_true c8; clear c8
     by_cases c9 : x3_2.length < 140737488355328; rotate_left
     · rw [if_neg c9] at H; exact absurd H (by simp)
     rw [if_pos c9] at H; have LMc9 := ak c9; clear c9; obtain ⟨y664, hyq⟩ : ∃ y_ : List Int, y_ = (x3_2 ++ [(wrap64 (128 + (Int.tmod x4_2 128))) % 256]) := ⟨_, rfl⟩; replace H : (spec_PutNumber.l0 k2 y664 (wrap64 (Int.tdiv x4_2 128))) = some r := by first | (rw [hyq]; with_reducible exact H) | (have H2_ := (Option.bind_some _ _).symm.trans H; rw [hyq]; with_reducible exact H2_) | (have H2_ := (Option.bind_some _ _).symm.trans H; with_reducible exact H2_) | with_reducible exact H | (rw [hyq]; exact H) | exact H
     have Ny664 := ak hyq; clear hyq; have H' := ak H; clear H; go_wp2_with (first | ((with_reducible refine gate_builtin (b := .append) (xs := #[.tmp 18, .tmp 23]) rfl ?_); at_builtin; refine Kd.R_append (Kd.int .u8) (w0 := w) w.heap.size rfl (.tmp 18) (.tmp 23) 22 5 (.int .u8 0) 1 rfl Try.underlying22 info5 rfl (by decide) (by omega) u3 x3_2 ((wrap64 (128 + (Int.tmod x4_2 128))) % 256) [.int .u8 ((wrap64 (128 + (Int.tmod x4_2 128))) % 256)] (fun _ => True) (fun _ => False) rfl rfl ?aP (fun _ hk => hk.elim) ?aF ?aO ?aB ?aS ?aL ?_; (case aP => exact rfl); (case aB => exact belA); (case aF => exact (fun _ _ => trivial)); (case aO => exact (rF HO_3)); (case aS => exact (below_size belA)); (case aL => have := LMc9.out; omega); intro v665 w10 ho hb hg hat; rw [← Ny664.out] at ho; have HO666 := ak ho; replace HB := ak hb; clear HO_3; clear ho hb hg hat))
     go_roundg k2
     case measure => have := HJ3.out; have := HK2.out; omega
     case rel => exact ⟨(y664), (wrap64 (Int.tdiv x4_2 128)), eqA, H', ⟨by have := HJ3.out; have := HK2.out; omega⟩, ⟨rA HO666⟩, ⟨belA⟩⟩

mutual
def spec_l10PutList.l0 : Nat → List Int → List Int → Int → Option (List Int)
 | 0, _, _, _ => none
 | k + 1, x0, x1, x5 => if x5 < (x1.length : Int) then (if 0 ≤ x5 then ((spec_PutNumber.f k (rd x1 x5)).bind fun t677 => (spec_l10PutList.l1 k x0 x1 x5 t677 (t677.length : Int) 0)) else (none)) else (some x0)
def spec_l10PutList.l1 : Nat → List Int → List Int → Int → List Int → Int → Int → Option (List Int)
 | 0, _, _, _, _, _, _ => none
 | k + 1, x0, x1, x5, x23, x24, x25 => if x25 < x24 then (if 0 ≤ x25 then (if x25 < (x23.length : Int) then (if x0.length < 140737488355328 then (spec_l10PutList.l1 k (x0 ++ [rd x23 x25]) x1 x5 x23 x24 (wrap64 (x25 + 1))) else (none)) else (none)) else (none)) else (spec_l10PutList.l0 k x0 x1 (wrap64 (x5 + 1)))
end
def spec_l10PutList.f (k : Nat) (l0 : List Int) (l1 : List Int) : Option (List Int) := (spec_PutNumber.f k (l1.length : Int)).bind fun t670 => ((spec_l01Join.f k l0 t670).bind fun t673 => (spec_l10PutList.l0 k t673 l1 0))
theorem spec_l10PutList.mono_l : ∀ k, (∀ y0 y1 y2, LeO (spec_l10PutList.l0 k y0 y1 y2) (spec_l10PutList.l0 (k + 1) y0 y1 y2)) ∧ (∀ y0 y1 y2 y3 y4 y5, LeO (spec_l10PutList.l1 k y0 y1 y2 y3 y4 y5) (spec_l10PutList.l1 (k + 1) y0 y1 y2 y3 y4 y5))
 | 0 => ⟨fun _ _ _ r h => by simp [spec_l10PutList.l0] at h, fun _ _ _ _ _ _ r h => by simp [spec_l10PutList.l1] at h⟩
 | k + 1 => by
  obtain ⟨ih0, ih1⟩ := spec_l10PutList.mono_l k; refine ⟨?_, ?_⟩
  · intro y0 y1 y2; unfold spec_l10PutList.l0; exact xq61
  · intro y0 y1 y2 y3 y4 y5; unfold spec_l10PutList.l1; exact xq61
theorem spec_l10PutList.mono : ∀ a0 a1 k, LeO (spec_l10PutList.f k a0 a1) (spec_l10PutList.f (k + 1) a0 a1) := by
 intro a0 a1 k; obtain ⟨ih0, ih1⟩ := spec_l10PutList.mono_l k
 unfold spec_l10PutList.f
 exact xq61
theorem spec_l10PutList.calls (k : Nat) (A0 : Option Addr) (c0 : Nat) (l0 : List Int) (A1 : Option Addr) (c1 : Nat) (l1 : List Int) (r : List Int) (w : World) (hr0 : Kd.C (Kd.int .u8) w A0 l0.length l0) (hc0 : l0.length ≤ c0) (hr1 : Kd.C (Kd.int .i64) w A1 l1.length l1) (hc1 : l1.length ≤ c1) (h : spec_l10PutList.f k l0 l1 = some r) :
 Calls Try.prog 117 #[.slice A0 l0.length c0, .slice A1 l1.length c1] w fun e w' => ∃ v0_ : Value, e = .returned (v0_) ∧ Kd.R (Kd.int .u8) 5 w' w.heap.size (fun _ => True) v0_ r ∧ Below w.heap.size w w' := by
 have HR0 := ak hr0; have HC0 := ak hc0; clear hr0 hc0; have HR1 := ak hr1; have HC1 := ak hc1; clear hr1 hc1; have HB := ak (Below.refl w.heap.size w); have H : ((spec_PutNumber.f k (l1.length : Int)).bind fun t670 => ((spec_l01Join.f k l0 t670).bind fun t673 => (spec_l10PutList.l0 k t673 l1 0))) = some r := h; clear h; replace H := Option.bind_eq_some_iff.mp H; obtain ⟨t670, A30, H⟩ := H; (try dsimp only at H); have A3 := ak A30; clear A30; replace H := Option.bind_eq_some_iff.mp H; obtain ⟨t673, A40, H⟩ := H; (try dsimp only at H); have A4 := ak A40; clear A40; have H' := ak H; clear H; go_enter Try.func117, Try.ntmps117
 go_wp2_with (first | ((with_reducible refine gate_callee (f := 116) rfl ?_); refine goB 11 Try.func116 #[.int .i64 (l1.length : Int)] rfl ?_; (with_reducible refine (spec_PutNumber.calls k (l1.length : Int) t670 _ A3.out).mono ?_); rintro e w5 ⟨v671, rfl, ho0, hb⟩; refine ⟨_, rfl, ?_⟩; have HO672 := rL ho0; replace HB := bS hb; (try clear hb ho0); obtain ⟨Ao6, co6, eo6⟩ := Kd.R_slice HO672.out; subst eo6) | ((with_reducible refine gate_callee (f := 96) rfl ?_); refine goB 12 Try.func96 #[.slice A0 l0.length c0, .slice Ao6 t670.length co6] rfl ?_; (with_reducible refine (spec_l01Join.calls k _ _ l0 _ _ t670 t673 _ ?side1 ?side2 ?side3 ?side4 A4.out).mono ?_); (case side1 => exact cA (Kd.C_below HR0.out HB.out)); (case side2 => exact HC0.out); (case side3 => exact cA ((Kd.R_reads' HO672.out).2.2)); (case side4 => exact (Kd.R_reads' HO672.out).2.1); rintro e w7 ⟨v674, rfl, ho0, hb⟩; refine ⟨_, rfl, ?_⟩; have HO675 := rL (Kd.R_new' ho0 (Kd.R_lt (rF HO672))); replace HO672 := ak (Kd.R_elder' (rF HO672) (Kd.R_base ho0) hb); replace HB := bS hb; (try clear hb ho0)))
 go_loopg [0, 5] k (fun kq v0 v5 w' => ∃ (x0_1 : List Int) (x5_1 : Int), v5 = .int .i64 x5_1 ∧ Aside0 (spec_l10PutList.l0 kq x0_1 l1 x5_1 = some r) ∧ Aside0 (kq ≤ k) ∧ Aside0 (Kd.R (Kd.int .u8) 5 w' w.heap.size (fun _ => True) v0 x0_1) ∧ Aside0 (Below w.heap.size w w'))
 case atStart => exact ⟨(t673), (0), eqA, H', ⟨Nat.le_refl _⟩, ⟨rE (Kd.R_mono HO675.out (fun _ hk => trivial))⟩, ⟨belA⟩⟩
 case round =>
  clear H'; obtain ⟨x0_1, x5_1, rfl, HA, HK1, HO_0, HB⟩ := hrel
  cases gk with
  | zero => exact absurd HA.out (by simp [spec_l10PutList.l0])
  | succ k1 =>
   have H := HA.out; clear HA; simp only [spec_l10PutList.l0] at H
   by_cases c8 : x5_1 < (l1.length : Int); rotate_left
   · rw [if_neg c8] at H; have c8b0 := decide_eq_false c8; clear c8; obtain rfl := Option.some.inj H; go_wp2
     go_ret
     exact ⟨_, xq6, by (with_reducible repeat (first | apply Kd.R_alloc | apply Kd.R_drewN | apply Kd.R_drew)); exact HO_0.out, belA⟩
   rw [if_pos c8] at H; have c8b0 := decide_eq_true c8; clear c8
   by_cases c9 : 0 ≤ x5_1; rotate_left
   · rw [if_neg c9] at H; exact absurd H (by simp)
   rw [if_pos c9] at H; have c9b0 := decide_eq_true c9; clear c9; replace H := Option.bind_eq_some_iff.mp H; obtain ⟨t677, A100, H⟩ := H; (try dsimp only at H); have A10 := ak A100; clear A100; have H' := ak H; clear H; have p676 : 0 ≤ (x5_1 : Int) := odA; have q676 : x5_1 < (l1.length : Int) := odA; obtain ⟨ad676, e676, hx676_0⟩ := Kd.at_int HR1.out x5_1 p676 q676
   cases e676
   try replace hx676_0 := cB HB hx676_0
   replace p676 := eq_true p676; replace q676 := eq_true q676; go_wp2_with (first | ((with_reducible refine gate_callee (f := 116) rfl ?_); refine goB 23 Try.func116 #[.int .i64 (rd l1 x5_1)] rfl ?_; (with_reducible refine (spec_PutNumber.calls k1 (rd l1 x5_1) t677 _ A10.out).mono ?_); rintro e w11 ⟨v678, rfl, ho0, hb⟩; refine ⟨_, rfl, ?_⟩; have HO679 := rL (Kd.R_new' ho0 (Kd.R_lt (rF HO_0))); replace HO_0 := ak (Kd.R_elder' (rF HO_0) (Kd.R_base ho0) hb); replace HB := bS hb; (try clear hb ho0); obtain ⟨Ao12, co12, eo12⟩ := Kd.R_slice HO679.out; subst eo12))
   go_loopg [0, 25] k1 (fun kq v0 v25 w' => ∃ (x0_2 : List Int) (x25_2 : Int), v25 = .int .i64 x25_2 ∧ Aside0 (spec_l10PutList.l1 kq x0_2 l1 x5_1 t677 (t677.length : Int) x25_2 = some r) ∧ Aside0 (kq ≤ k1) ∧ Aside0 (Kd.R (Kd.int .u8) 5 w' w.heap.size (fun k_ => some k_ ≠ ((.slice Ao12 t677.length co12) : Value).ownBlock) v0 x0_2) ∧ Aside0 (Kd.R (Kd.int .u8) 5 w' w.heap.size (fun k_ => some k_ ≠ (v0 : Value).ownBlock) (.slice Ao12 t677.length co12) t677) ∧ Aside0 (Below w.heap.size w w'))
   case atStart => exact ⟨(x0_1), (0), eqA, H', ⟨Nat.le_refl _⟩, ⟨rE (Kd.R_mono HO_0.out (fun _ hk => hk.2))⟩, ⟨rE (Kd.R_mono HO679.out (fun _ hk => hk.2))⟩, ⟨belA⟩⟩
   case round =>
    clear H'; obtain ⟨x0_2, x25_2, rfl, HA, HK2, HO_0, HO_23, HB⟩ := hrel
    cases gk with
    | zero => exact absurd HA.out (by simp [spec_l10PutList.l1])
    | succ k2 =>
     have H := HA.out; clear HA; simp only [spec_l10PutList.l1] at H
     by_cases c13 : x25_2 < (t677.length : Int); rotate_left
     · rw [if_neg c13] at H; have c13b0 := decide_eq_false c13; clear c13; have H' := ak H; clear H; go_wp2
       go_roundg k2
       case measure => have := HK1.out; have := HK2.out; omega
       case rel => exact ⟨(x0_2), (wrap64 (x5_1 + 1)), eqA, H', ⟨xq52⟩, ⟨rE (Kd.R_mono HO_0.out (fun _ hk => trivial))⟩, ⟨belA⟩⟩
     rw [if_pos c13] at H; have c13b0 := decide_eq_true c13; clear c13
     by_cases c14 : 0 ≤ x25_2; rotate_left
     · rw [if_neg c14] at H; exact absurd H (by simp)
     rw [if_pos c14] at H; have c14b0 := decide_eq_true c14; clear c14
     by_cases c15 : x25_2 < (t677.length : Int); rotate_left
     · rw [if_neg c15] at H; exact absurd H (by simp)
     rw [if_pos c15] at H; have c15b0 := decide_eq_true c15; clear c15
     by_cases c16 : x0_2.length < 140737488355328; rotate_left
     · rw [if_neg c16] at H; exact absurd H (by simp)
     rw [if_pos c16] at H; have LMc16 := ak c16; clear c16; obtain ⟨y681, hyq⟩ : ∃ y_ : List Int, y_ = (x0_2 ++ [rd t677 x25_2]) := ⟨_, rfl⟩; replace H : (spec_l10PutList.l1 k2 y681 l1 x5_1 t677 (t677.length : Int) (wrap64 (x25_2 + 1))) = some r := by first | (rw [hyq]; with_reducible exact H) | (have H2_ := (Option.bind_some _ _).symm.trans H; rw [hyq]; with_reducible exact H2_) | (have H2_ := (Option.bind_some _ _).symm.trans H; with_reducible exact H2_) | with_reducible exact H | (rw [hyq]; exact H) | exact H
     have Ny681 := ak hyq; clear hyq; have H' := ak H; clear H; have p680 : 0 ≤ (x25_2 : Int) := odA; have q680 : x25_2 < (t677.length : Int) := odA; obtain ⟨ad680, e680, hx680_0⟩ := Kd.at_int (Kd.R_reads' HO_23.out).2.2 x25_2 p680 q680
     cases e680
     replace p680 := eq_true p680; replace q680 := eq_true q680; go_wp2_with (first | ((with_reducible refine gate_builtin (b := .append) (xs := #[.tmp 29, .tmp 31]) rfl ?_); at_builtin; refine Kd.R_append (Kd.int .u8) (w0 := w) w.heap.size rfl (.tmp 29) (.tmp 31) 22 5 (.int .u8 0) 1 rfl Try.underlying22 info5 rfl (by decide) (by omega) u0 x0_2 (rd t677 x25_2) [.int .u8 (rd t677 x25_2)] (fun k_ => some k_ ≠ (.slice (some ad680) t677.length co12 : Value).ownBlock) (fun _ => False) rfl rfl ?aP (fun _ hk => hk.elim) ?aF ?aO ?aB ?aS ?aL ?_; (case aP => exact rfl); (case aB => exact belA); (case aF => exact (fun k_ hk => Kd.fresh' (Kd.R_lt (rF HO_23)) k_ hk)); (case aO => exact (rF HO_0)); (case aS => exact (below_size belA)); (case aL => have := LMc16.out; omega); intro v682 w17 ho hb hg hat; rw [← Ny681.out] at ho; have HO683 := ak ho; replace HO_23 := ak (Kd.R_after (ok := (fun _ => True)) (by (with_reducible repeat (first | apply Kd.R_alloc | apply Kd.R_drewN | apply Kd.R_drew)); first | exact Kd.R_mono HO_23.out (fun _ hk => ⟨trivial, hk⟩) | exact Kd.R_mono HO_23.out (fun _ _ => trivial)) hg hat); replace HB := ak hb; clear HO_0; clear ho hb hg hat))
     go_roundg k2
     case measure => have := HK1.out; have := HK2.out; omega
     case rel => exact ⟨(y681), (wrap64 (x25_2 + 1)), eqA, H', ⟨xq52⟩, ⟨rA HO683⟩, ⟨rE (Kd.R_mono HO_23.out (fun _ hk => hk.2))⟩, ⟨belA⟩⟩

end Go.Proofs.Ytogdhclomgafdaa.PFnJobBytes

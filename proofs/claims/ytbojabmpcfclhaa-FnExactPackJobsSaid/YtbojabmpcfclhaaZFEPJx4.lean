-- Written by a program of this session (the print of the kit with contracts of this session's own added)
import Derived.Test.YtbojabmpcfclhaaZFEPJx3
set_option maxHeartbeats 8000000
set_option maxRecDepth 100000
namespace Go.Proofs.Ytbojabmpcfclhaa.PFnExactPackJobs
open Go.RowKit Go.Proofs.YtbojabmpcfclhaaW.PrintWords Go.Proofs.YtbojabmpcfclhaaW.PrintLast Go.Proofs.YtbojabmpcfclhaaW.PrintMore Go.Proofs.YtbojabmpcfclhaaW.PrintPack Go.Proofs.YtbojabmpcfclhaaW.PrintPack
attribute [local go_sem] max2_int min2_int max_two min_two max_three min_three max_four min_four   -- for this text's walks alone
set_option linter.unusedVariables false
set_option linter.unusedSimpArgs false

def spec_JobOk.j0 : Nat → Bool → Int → Int → List Int → List Int → Int → Option (Bool)
 | 0, _, _, _, _, _, _ => none
 | k + 1, x22, x114000, x114001, x114002, x114003, x114004 => if x22 = true then (some false) else ((spec_l10Words.f k x114002).bind fun t116 => (if t116 = true then ((spec_l10Words.f k x114003).bind fun t117 => (if t117 = true then ((spec_l01In.f x114004 0 400).bind fun t118 => (if t118 = true then ((spec_l10UsesB.f k x114000).bind fun t119 => (if t119 = true then (if x114000 = 11 then (some true) else (some (x114004 == 0))) else (if (x114003.length : Int) = 0 then (if x114000 = 11 then (some true) else (some (x114004 == 0))) else (some false)))) else (some false))) else (some false))) else (some false)))
def spec_JobOk.f (k : Nat) (a0_0 : Int) (a0_1 : Int) (l0_2 : List Int) (l0_3 : List Int) (a0_4 : Int) : Option (Bool) := (spec_l01In.f a0_0 1 11).bind fun t114 => (if t114 = true then ((spec_Modulus.f a0_1).bind fun t115 => (if t115 = 0 then (spec_JobOk.j0 k true a0_0 a0_1 l0_2 l0_3 a0_4) else (if a0_0 = 6 then (spec_JobOk.j0 k (a0_1 != 0) a0_0 a0_1 l0_2 l0_3 a0_4) else (spec_JobOk.j0 k false a0_0 a0_1 l0_2 l0_3 a0_4)))) else (spec_JobOk.j0 k true a0_0 a0_1 l0_2 l0_3 a0_4))
theorem spec_JobOk.mono_l : ∀ k, (∀ y0 y1 y2 y3 y4 y5, LeO (spec_JobOk.j0 k y0 y1 y2 y3 y4 y5) (spec_JobOk.j0 (k + 1) y0 y1 y2 y3 y4 y5))
 | 0 => fun _ _ _ _ _ _ r h => by simp [spec_JobOk.j0] at h
 | k + 1 => by
  have ih0 := spec_JobOk.mono_l k
  · intro y0 y1 y2 y3 y4 y5; unfold spec_JobOk.j0; exact xq36
theorem spec_JobOk.mono : ∀ a0 a1 a2 a3 a4 k, LeO (spec_JobOk.f k a0 a1 a2 a3 a4) (spec_JobOk.f (k + 1) a0 a1 a2 a3 a4) := by
 intro a0 a1 a2 a3 a4 k; have ih0 := spec_JobOk.mono_l k
 unfold spec_JobOk.f
 exact xq36
theorem spec_JobOk.calls (k : Nat) (a0_0 : Int) (a0_1 : Int) (A0_2 : Option Addr) (c0_2 : Nat) (l0_2 : List Int) (A0_3 : Option Addr) (c0_3 : Nat) (l0_3 : List Int) (a0_4 : Int) (r : Bool) (w : World) (hr0_2 : Kd.C (Kd.int .i64) w A0_2 l0_2.length l0_2) (hc0_2 : l0_2.length ≤ c0_2) (hr0_3 : Kd.C (Kd.int .i64) w A0_3 l0_3.length l0_3) (hc0_3 : l0_3.length ≤ c0_3) (h : spec_JobOk.f k a0_0 a0_1 l0_2 l0_3 a0_4 = some r) :
 Calls Try.prog 74 #[.agg #[.int .i64 a0_0, .int .i64 a0_1, .slice A0_2 l0_2.length c0_2, .slice A0_3 l0_3.length c0_3, .int .i64 a0_4]] w fun e w' => e = .returned (.bool r) ∧ Below w.heap.size w w' := by
 have hu104 := Try.underlying104; have HR0_2 := ak hr0_2; have HC0_2 := ak hc0_2; clear hr0_2 hc0_2; have HR0_3 := ak hr0_3; have HC0_3 := ak hc0_3; clear hr0_3 hc0_3; have HB := ak (Below.refl w.heap.size w); have H : ((spec_l01In.f a0_0 1 11).bind fun t114 => (if t114 = true then ((spec_Modulus.f a0_1).bind fun t115 => (if t115 = 0 then (spec_JobOk.j0 k true a0_0 a0_1 l0_2 l0_3 a0_4) else (if a0_0 = 6 then (spec_JobOk.j0 k (a0_1 != 0) a0_0 a0_1 l0_2 l0_3 a0_4) else (spec_JobOk.j0 k false a0_0 a0_1 l0_2 l0_3 a0_4)))) else (spec_JobOk.j0 k true a0_0 a0_1 l0_2 l0_3 a0_4))) = some r := h; clear h; have HC2 := ak H; clear H; go_enter Try.func74, Try.ntmps74
 go_upto_region 1 with (first | ((with_reducible refine gate_dst (N := 1) rfl ?_); (try (refine gate_guard (by rfl) ?_; dsimp only)); refine boxA 1 #[.int .i64 a0_0, .int .i64 a0_1, .slice A0_2 l0_2.length c0_2, .slice A0_3 l0_3.length c0_3, .int .i64 a0_4] 104 ?_; intro gb113 hg w3 hbox hb; have BK113 := ak hbox; have GW113 := leA (w := w) hg; have GE113 := leA (w := w) hg; replace HB := bS hb; clear hb hbox hg))
 (try simp only [Act.put, sa, sb, sc])
 go_cut [22] (fun v22 wc => ∃ (kq : Nat) (x22_1 : Bool), v22 = .bool x22_1 ∧ Aside0 (spec_JobOk.j0 kq x22_1 a0_0 a0_1 l0_2 l0_3 a0_4 = some r) ∧ Aside0 (kq ≤ k) ∧ Aside0 (wc.heap[gb113]? = some (.cells #[.int .i64 a0_0, .int .i64 a0_1, (.slice A0_2 l0_2.length c0_2), (.slice A0_3 l0_3.length c0_3), .int .i64 a0_4] 104 (0, 0))) ∧ Aside0 (Below w.heap.size w wc))
 case first =>
  have H := HC2.out; clear HC2; replace H := Option.bind_eq_some_iff.mp H; obtain ⟨t114, A40, H⟩ := H; (try dsimp only at H); have A4 := ak A40; clear A40
  by_cases c5 : t114 = true; rotate_left
  · replace c5 := Bool.eq_false_iff.mpr c5; subst c5; have H1 : (spec_JobOk.j0 k true a0_0 a0_1 l0_2 l0_3 a0_4) = some r := by rw [if_neg (show ¬ (false = true) by decide)] at H; exact H
    clear H; have H := H1; clear H1; have H' := ak H; clear H; obtain ⟨_, _, _, _, _, _, _, _, _, _⟩ := cel5 BK113; go_wp2_with (first | ((with_reducible refine gate_callee (f := 60) rfl ?_); refine goB 5 Try.func60 #[.int .i64 a0_0, .int .i64 1, .int .i64 11] rfl ?_; (with_reducible refine (spec_l01In.calls a0_0 1 11 false _ A4.out).mono ?_); rintro e w' ⟨rfl, ⟨nd, rfl⟩⟩; refine ⟨_, rfl, ?_⟩))
    go_meet
    case rel => exact ⟨_, (true), eqA, H', ⟨xq7⟩, ⟨blkA⟩, ⟨belA⟩⟩
  subst c5; have H1 : ((spec_Modulus.f a0_1).bind fun t115 => (if t115 = 0 then (spec_JobOk.j0 k true a0_0 a0_1 l0_2 l0_3 a0_4) else (if a0_0 = 6 then (spec_JobOk.j0 k (a0_1 != 0) a0_0 a0_1 l0_2 l0_3 a0_4) else (spec_JobOk.j0 k false a0_0 a0_1 l0_2 l0_3 a0_4)))) = some r := by rw [if_pos rfl] at H; exact H
  clear H; have H := H1; clear H1; replace H := Option.bind_eq_some_iff.mp H; obtain ⟨t115, A60, H⟩ := H; (try dsimp only at H); have A6 := ak A60; clear A60
  by_cases c7 : t115 = 0
  · rw [if_pos c7] at H; have c7b0 : (t115 == 0) = true := beq_iff_eq.mpr c7; have c7b1 : (t115 != 0) = false := bne_eq_false_iff_eq.mpr c7; clear c7; (first | rw [c7b0] | (simp only [i64_w, i32_w]; rw [c7b0]) | skip)
    have H' := ak H; clear H; obtain ⟨_, _, _, _, _, _, _, _, _, _⟩ := cel5 BK113; go_wp2_with (first | ((with_reducible refine gate_callee (f := 60) rfl ?_); refine goB 5 Try.func60 #[.int .i64 a0_0, .int .i64 1, .int .i64 11] rfl ?_; (with_reducible refine (spec_l01In.calls a0_0 1 11 true _ A4.out).mono ?_); rintro e w' ⟨rfl, ⟨nd, rfl⟩⟩; refine ⟨_, rfl, ?_⟩) | (go_at_call 117; (with_reducible refine (spec_Modulus.calls a0_1 t115 _ A6.out).mono ?_); rintro e w' ⟨rfl, ⟨nd, rfl⟩⟩))
    go_meet
    case rel => exact ⟨_, (true), eqA, H', ⟨xq7⟩, ⟨blkA⟩, ⟨belA⟩⟩
  rw [if_neg c7] at H; have c7b0 : (t115 == 0) = false := beq_eq_false_iff_ne.mpr c7; have c7b1 : (t115 != 0) = true := bne_iff_ne.mpr c7; (first | rw [c7b0] | (simp only [i64_w, i32_w]; rw [c7b0]) | skip)
  by_cases c9 : a0_0 = 6; rotate_left
  · rw [if_neg c9] at H; have c9b0 : (a0_0 == 6) = false := beq_eq_false_iff_ne.mpr c9; have c9b1 : (a0_0 != 6) = true := bne_iff_ne.mpr c9; have H' := ak H; clear H; obtain ⟨_, _, _, _, _, _, _, _, _, _⟩ := cel5 BK113; go_wp2_with (first | ((with_reducible refine gate_callee (f := 60) rfl ?_); refine goB 5 Try.func60 #[.int .i64 a0_0, .int .i64 1, .int .i64 11] rfl ?_; (with_reducible refine (spec_l01In.calls a0_0 1 11 true _ A4.out).mono ?_); rintro e w' ⟨rfl, ⟨nd, rfl⟩⟩; refine ⟨_, rfl, ?_⟩) | (go_at_call 117; (with_reducible refine (spec_Modulus.calls a0_1 t115 _ A6.out).mono ?_); rintro e w' ⟨rfl, ⟨nd, rfl⟩⟩))
    go_meet
    case rel => exact ⟨_, (false), eqA, H', ⟨xq7⟩, ⟨blkA⟩, ⟨belA⟩⟩
  rw [if_pos c9] at H; have c9b0 : (a0_0 == 6) = true := beq_iff_eq.mpr c9; have c9b1 : (a0_0 != 6) = false := bne_eq_false_iff_eq.mpr c9; clear c9; have H' := ak H; clear H; obtain ⟨_, _, _, _, _, _, _, _, _, _⟩ := cel5 BK113; go_wp2_with (first | ((with_reducible refine gate_callee (f := 60) rfl ?_); refine goB 5 Try.func60 #[.int .i64 a0_0, .int .i64 1, .int .i64 11] rfl ?_; (with_reducible refine (spec_l01In.calls a0_0 1 11 true _ A4.out).mono ?_); rintro e w' ⟨rfl, ⟨nd, rfl⟩⟩; refine ⟨_, rfl, ?_⟩) | (go_at_call 117; (with_reducible refine (spec_Modulus.calls a0_1 t115 _ A6.out).mono ?_); rintro e w' ⟨rfl, ⟨nd, rfl⟩⟩))
  go_meet
  case rel => exact ⟨_, ((a0_1 != 0)), eqA, H', ⟨xq7⟩, ⟨blkA⟩, ⟨belA⟩⟩
 case rest =>
  clear HC2; obtain ⟨kq, x22_1, rfl, HA, HJ1, BK113, HB⟩ := hcut
  cases kq with
  | zero => exact absurd HA.out (by simp [spec_JobOk.j0])
  | succ kj1 =>
   have H := HA.out; clear HA; simp only [spec_JobOk.j0] at H
   by_cases c13 : x22_1 = true
   · subst c13; have H1 : (some false) = some r := by rw [if_pos rfl] at H; exact H
     clear H; have H := H1; clear H1; obtain rfl := Option.some.inj H; go_wp2
     go_ret
     exact ⟨xq1, belA⟩
   replace c13 := Bool.eq_false_iff.mpr c13; subst c13; have H1 : ((spec_l10Words.f kj1 l0_2).bind fun t116 => (if t116 = true then ((spec_l10Words.f kj1 l0_3).bind fun t117 => (if t117 = true then ((spec_l01In.f a0_4 0 400).bind fun t118 => (if t118 = true then ((spec_l10UsesB.f kj1 a0_0).bind fun t119 => (if t119 = true then (if a0_0 = 11 then (some true) else (some (a0_4 == 0))) else (if (l0_3.length : Int) = 0 then (if a0_0 = 11 then (some true) else (some (a0_4 == 0))) else (some false)))) else (some false))) else (some false))) else (some false))) = some r := by rw [if_neg (show ¬ (false = true) by decide)] at H; exact H
   clear H; have H := H1; clear H1; replace H := Option.bind_eq_some_iff.mp H; obtain ⟨t116, A140, H⟩ := H; (try dsimp only at H); have A14 := ak A140; clear A140
   by_cases c15 : t116 = true; rotate_left
   · replace c15 := Bool.eq_false_iff.mpr c15; subst c15; have H1 : (some false) = some r := by rw [if_neg (show ¬ (false = true) by decide)] at H; exact H
     clear H; have H := H1; clear H1; obtain rfl := Option.some.inj H; obtain ⟨_, _, _, _, _, _, _, _, _, _⟩ := cel5 BK113; go_wp2_with (first | ((with_reducible refine gate_callee (f := 128) rfl ?_); refine goB 25 Try.func128 #[.slice A0_2 l0_2.length c0_2] rfl ?_; (with_reducible refine (spec_l10Words.calls kj1 _ _ l0_2 false _ ?side1 ?side2 A14.out).mono ?_); (case side1 => exact cA (Kd.C_below HR0_2.out HB.out)); (case side2 => exact HC0_2.out); rintro e w' ⟨rfl, ⟨nd, rfl⟩⟩; refine ⟨_, rfl, ?_⟩))
     go_ret
     exact ⟨xq1, belA⟩
   subst c15; have H1 : ((spec_l10Words.f kj1 l0_3).bind fun t117 => (if t117 = true then ((spec_l01In.f a0_4 0 400).bind fun t118 => (if t118 = true then ((spec_l10UsesB.f kj1 a0_0).bind fun t119 => (if t119 = true then (if a0_0 = 11 then (some true) else (some (a0_4 == 0))) else (if (l0_3.length : Int) = 0 then (if a0_0 = 11 then (some true) else (some (a0_4 == 0))) else (some false)))) else (some false))) else (some false))) = some r := by rw [if_pos rfl] at H; exact H
   clear H; have H := H1; clear H1; replace H := Option.bind_eq_some_iff.mp H; obtain ⟨t117, A160, H⟩ := H; (try dsimp only at H); have A16 := ak A160; clear A160
   by_cases c17 : t117 = true; rotate_left
   · replace c17 := Bool.eq_false_iff.mpr c17; subst c17; have H1 : (some false) = some r := by rw [if_neg (show ¬ (false = true) by decide)] at H; exact H
     clear H; have H := H1; clear H1; obtain rfl := Option.some.inj H; obtain ⟨_, _, _, _, _, _, _, _, _, _⟩ := cel5 BK113; go_wp2_with (first | ((with_reducible refine gate_callee (f := 128) rfl ?_); refine goB 25 Try.func128 #[.slice A0_2 l0_2.length c0_2] rfl ?_; (with_reducible refine (spec_l10Words.calls kj1 _ _ l0_2 true _ ?side1 ?side2 A14.out).mono ?_); (case side1 => exact cA (Kd.C_below HR0_2.out HB.out)); (case side2 => exact HC0_2.out); rintro e w' ⟨rfl, ⟨nd, rfl⟩⟩; refine ⟨_, rfl, ?_⟩) | (go_at_call 128; (with_reducible refine (spec_l10Words.calls kj1 _ _ l0_3 false _ ?side1 ?side2 A16.out).mono ?_); (case side1 => exact cA (Kd.C_below HR0_3.out belA)); (case side2 => exact HC0_3.out); rintro e w' ⟨rfl, ⟨nd, rfl⟩⟩))
     go_ret
     exact ⟨xq1, belA⟩
   subst c17; have H1 : ((spec_l01In.f a0_4 0 400).bind fun t118 => (if t118 = true then ((spec_l10UsesB.f kj1 a0_0).bind fun t119 => (if t119 = true then (if a0_0 = 11 then (some true) else (some (a0_4 == 0))) else (if (l0_3.length : Int) = 0 then (if a0_0 = 11 then (some true) else (some (a0_4 == 0))) else (some false)))) else (some false))) = some r := by rw [if_pos rfl] at H; exact H
   clear H; have H := H1; clear H1; replace H := Option.bind_eq_some_iff.mp H; obtain ⟨t118, A180, H⟩ := H; (try dsimp only at H); have A18 := ak A180; clear A180
   by_cases c19 : t118 = true; rotate_left
   · replace c19 := Bool.eq_false_iff.mpr c19; subst c19; have H1 : (some false) = some r := by rw [if_neg (show ¬ (false = true) by decide)] at H; exact H
     clear H; have H := H1; clear H1; obtain rfl := Option.some.inj H; obtain ⟨_, _, _, _, _, _, _, _, _, _⟩ := cel5 BK113; go_wp2_with (first | ((with_reducible refine gate_callee (f := 128) rfl ?_); refine goB 25 Try.func128 #[.slice A0_2 l0_2.length c0_2] rfl ?_; (with_reducible refine (spec_l10Words.calls kj1 _ _ l0_2 true _ ?side1 ?side2 A14.out).mono ?_); (case side1 => exact cA (Kd.C_below HR0_2.out HB.out)); (case side2 => exact HC0_2.out); rintro e w' ⟨rfl, ⟨nd, rfl⟩⟩; refine ⟨_, rfl, ?_⟩) | (go_at_call 128; (with_reducible refine (spec_l10Words.calls kj1 _ _ l0_3 true _ ?side1 ?side2 A16.out).mono ?_); (case side1 => exact cA (Kd.C_below HR0_3.out belA)); (case side2 => exact HC0_3.out); rintro e w' ⟨rfl, ⟨nd, rfl⟩⟩) | (go_at_call 60; (with_reducible refine (spec_l01In.calls a0_4 0 400 false _ A18.out).mono ?_); rintro e w' ⟨rfl, ⟨nd, rfl⟩⟩))
     go_ret
     exact ⟨xq1, belA⟩
   subst c19; have H1 : ((spec_l10UsesB.f kj1 a0_0).bind fun t119 => (if t119 = true then (if a0_0 = 11 then (some true) else (some (a0_4 == 0))) else (if (l0_3.length : Int) = 0 then (if a0_0 = 11 then (some true) else (some (a0_4 == 0))) else (some false)))) = some r := by rw [if_pos rfl] at H; exact H
   clear H; have H := H1; clear H1; replace H := Option.bind_eq_some_iff.mp H; obtain ⟨t119, A200, H⟩ := H; (try dsimp only at H); have A20 := ak A200; clear A200
   by_cases c21 : t119 = true
   · subst c21; have H1 : (if a0_0 = 11 then (some true) else (some (a0_4 == 0))) = some r := by rw [if_pos rfl] at H; exact H
     clear H; have H := H1; clear H1
     by_cases c22 : a0_0 = 11; rotate_left
     · rw [if_neg c22] at H; have c22b0 : (a0_0 == 11) = false := beq_eq_false_iff_ne.mpr c22; have c22b1 : (a0_0 != 11) = true := bne_iff_ne.mpr c22; obtain rfl := Option.some.inj H; obtain ⟨_, _, _, _, _, _, _, _, _, _⟩ := cel5 BK113; go_wp2_with (first | ((with_reducible refine gate_callee (f := 128) rfl ?_); refine goB 25 Try.func128 #[.slice A0_2 l0_2.length c0_2] rfl ?_; (with_reducible refine (spec_l10Words.calls kj1 _ _ l0_2 true _ ?side1 ?side2 A14.out).mono ?_); (case side1 => exact cA (Kd.C_below HR0_2.out HB.out)); (case side2 => exact HC0_2.out); rintro e w' ⟨rfl, ⟨nd, rfl⟩⟩; refine ⟨_, rfl, ?_⟩) | (go_at_call 128; (with_reducible refine (spec_l10Words.calls kj1 _ _ l0_3 true _ ?side1 ?side2 A16.out).mono ?_); (case side1 => exact cA (Kd.C_below HR0_3.out belA)); (case side2 => exact HC0_3.out); rintro e w' ⟨rfl, ⟨nd, rfl⟩⟩) | (go_at_call 60; (with_reducible refine (spec_l01In.calls a0_4 0 400 true _ A18.out).mono ?_); rintro e w' ⟨rfl, ⟨nd, rfl⟩⟩) | ((with_reducible refine gate_callee (f := 129) rfl ?_); refine goB 41 Try.func129 #[.int .i64 a0_0] rfl ?_; (with_reducible refine (spec_l10UsesB.calls kj1 a0_0 true _ A20.out).mono ?_); rintro e w27 ⟨rfl, hb⟩; refine ⟨_, rfl, ?_⟩; replace BK113 := bB BK113 hb; replace HB := bS hb; (try clear hb); obtain ⟨_, _, _, _, _, _, _, _, _, _⟩ := cel5 BK113))
       go_ret
       exact ⟨xq1, belA⟩
     rw [if_pos c22] at H; have c22b0 : (a0_0 == 11) = true := beq_iff_eq.mpr c22; have c22b1 : (a0_0 != 11) = false := bne_eq_false_iff_eq.mpr c22; clear c22; obtain rfl := Option.some.inj H; obtain ⟨_, _, _, _, _, _, _, _, _, _⟩ := cel5 BK113; go_wp2_with (first | ((with_reducible refine gate_callee (f := 128) rfl ?_); refine goB 25 Try.func128 #[.slice A0_2 l0_2.length c0_2] rfl ?_; (with_reducible refine (spec_l10Words.calls kj1 _ _ l0_2 true _ ?side1 ?side2 A14.out).mono ?_); (case side1 => exact cA (Kd.C_below HR0_2.out HB.out)); (case side2 => exact HC0_2.out); rintro e w' ⟨rfl, ⟨nd, rfl⟩⟩; refine ⟨_, rfl, ?_⟩) | (go_at_call 128; (with_reducible refine (spec_l10Words.calls kj1 _ _ l0_3 true _ ?side1 ?side2 A16.out).mono ?_); (case side1 => exact cA (Kd.C_below HR0_3.out belA)); (case side2 => exact HC0_3.out); rintro e w' ⟨rfl, ⟨nd, rfl⟩⟩) | (go_at_call 60; (with_reducible refine (spec_l01In.calls a0_4 0 400 true _ A18.out).mono ?_); rintro e w' ⟨rfl, ⟨nd, rfl⟩⟩) | ((with_reducible refine gate_callee (f := 129) rfl ?_); refine goB 41 Try.func129 #[.int .i64 a0_0] rfl ?_; (with_reducible refine (spec_l10UsesB.calls kj1 a0_0 true _ A20.out).mono ?_); rintro e w24 ⟨rfl, hb⟩; refine ⟨_, rfl, ?_⟩; replace BK113 := bB BK113 hb; replace HB := bS hb; (try clear hb); obtain ⟨_, _, _, _, _, _, _, _, _, _⟩ := cel5 BK113))
     go_ret
     exact ⟨xq1, belA⟩
   replace c21 := Bool.eq_false_iff.mpr c21; subst c21; have H1 : (if (l0_3.length : Int) = 0 then (if a0_0 = 11 then (some true) else (some (a0_4 == 0))) else (some false)) = some r := by rw [if_neg (show ¬ (false = true) by decide)] at H; exact H
   clear H; have H := H1; clear H1
   by_cases c29 : (l0_3.length : Int) = 0; rotate_left
   · rw [if_neg c29] at H; have c29b0 : ((l0_3.length : Int) == 0) = false := beq_eq_false_iff_ne.mpr c29; have c29b1 : ((l0_3.length : Int) != 0) = true := bne_iff_ne.mpr c29; have c29b2 : ¬ (l0_3 = []) := fun h_ => c29 (by rw [h_]; rfl)
     obtain rfl := Option.some.inj H; obtain ⟨_, _, _, _, _, _, _, _, _, _⟩ := cel5 BK113; go_wp2_with (first | ((with_reducible refine gate_callee (f := 128) rfl ?_); refine goB 25 Try.func128 #[.slice A0_2 l0_2.length c0_2] rfl ?_; (with_reducible refine (spec_l10Words.calls kj1 _ _ l0_2 true _ ?side1 ?side2 A14.out).mono ?_); (case side1 => exact cA (Kd.C_below HR0_2.out HB.out)); (case side2 => exact HC0_2.out); rintro e w' ⟨rfl, ⟨nd, rfl⟩⟩; refine ⟨_, rfl, ?_⟩) | (go_at_call 128; (with_reducible refine (spec_l10Words.calls kj1 _ _ l0_3 true _ ?side1 ?side2 A16.out).mono ?_); (case side1 => exact cA (Kd.C_below HR0_3.out belA)); (case side2 => exact HC0_3.out); rintro e w' ⟨rfl, ⟨nd, rfl⟩⟩) | (go_at_call 60; (with_reducible refine (spec_l01In.calls a0_4 0 400 true _ A18.out).mono ?_); rintro e w' ⟨rfl, ⟨nd, rfl⟩⟩) | ((with_reducible refine gate_callee (f := 129) rfl ?_); refine goB 41 Try.func129 #[.int .i64 a0_0] rfl ?_; (with_reducible refine (spec_l10UsesB.calls kj1 a0_0 false _ A20.out).mono ?_); rintro e w38 ⟨rfl, hb⟩; refine ⟨_, rfl, ?_⟩; replace BK113 := bB BK113 hb; replace HB := bS hb; (try clear hb); obtain ⟨_, _, _, _, _, _, _, _, _, _⟩ := cel5 BK113))
     go_ret
     exact ⟨xq1, belA⟩
   rw [if_pos c29] at H; have c29b0 : ((l0_3.length : Int) == 0) = true := beq_iff_eq.mpr c29; have c29b1 : ((l0_3.length : Int) != 0) = false := bne_eq_false_iff_eq.mpr c29; clear c29
   by_cases c30 : a0_0 = 11; rotate_left
   · rw [if_neg c30] at H; have c30b0 : (a0_0 == 11) = false := beq_eq_false_iff_ne.mpr c30; have c30b1 : (a0_0 != 11) = true := bne_iff_ne.mpr c30; obtain rfl := Option.some.inj H; obtain ⟨_, _, _, _, _, _, _, _, _, _⟩ := cel5 BK113; go_wp2_with (first | ((with_reducible refine gate_callee (f := 128) rfl ?_); refine goB 25 Try.func128 #[.slice A0_2 l0_2.length c0_2] rfl ?_; (with_reducible refine (spec_l10Words.calls kj1 _ _ l0_2 true _ ?side1 ?side2 A14.out).mono ?_); (case side1 => exact cA (Kd.C_below HR0_2.out HB.out)); (case side2 => exact HC0_2.out); rintro e w' ⟨rfl, ⟨nd, rfl⟩⟩; refine ⟨_, rfl, ?_⟩) | (go_at_call 128; (with_reducible refine (spec_l10Words.calls kj1 _ _ l0_3 true _ ?side1 ?side2 A16.out).mono ?_); (case side1 => exact cA (Kd.C_below HR0_3.out belA)); (case side2 => exact HC0_3.out); rintro e w' ⟨rfl, ⟨nd, rfl⟩⟩) | (go_at_call 60; (with_reducible refine (spec_l01In.calls a0_4 0 400 true _ A18.out).mono ?_); rintro e w' ⟨rfl, ⟨nd, rfl⟩⟩) | ((with_reducible refine gate_callee (f := 129) rfl ?_); refine goB 41 Try.func129 #[.int .i64 a0_0] rfl ?_; (with_reducible refine (spec_l10UsesB.calls kj1 a0_0 false _ A20.out).mono ?_); rintro e w35 ⟨rfl, hb⟩; refine ⟨_, rfl, ?_⟩; replace BK113 := bB BK113 hb; replace HB := bS hb; (try clear hb); obtain ⟨_, _, _, _, _, _, _, _, _, _⟩ := cel5 BK113))
     go_ret
     exact ⟨xq1, belA⟩
   rw [if_pos c30] at H; have c30b0 : (a0_0 == 11) = true := beq_iff_eq.mpr c30; have c30b1 : (a0_0 != 11) = false := bne_eq_false_iff_eq.mpr c30; clear c30; obtain rfl := Option.some.inj H; obtain ⟨_, _, _, _, _, _, _, _, _, _⟩ := cel5 BK113; go_wp2_with (first | ((with_reducible refine gate_callee (f := 128) rfl ?_); refine goB 25 Try.func128 #[.slice A0_2 l0_2.length c0_2] rfl ?_; (with_reducible refine (spec_l10Words.calls kj1 _ _ l0_2 true _ ?side1 ?side2 A14.out).mono ?_); (case side1 => exact cA (Kd.C_below HR0_2.out HB.out)); (case side2 => exact HC0_2.out); rintro e w' ⟨rfl, ⟨nd, rfl⟩⟩; refine ⟨_, rfl, ?_⟩) | (go_at_call 128; (with_reducible refine (spec_l10Words.calls kj1 _ _ l0_3 true _ ?side1 ?side2 A16.out).mono ?_); (case side1 => exact cA (Kd.C_below HR0_3.out belA)); (case side2 => exact HC0_3.out); rintro e w' ⟨rfl, ⟨nd, rfl⟩⟩) | (go_at_call 60; (with_reducible refine (spec_l01In.calls a0_4 0 400 true _ A18.out).mono ?_); rintro e w' ⟨rfl, ⟨nd, rfl⟩⟩) | ((with_reducible refine gate_callee (f := 129) rfl ?_); refine goB 41 Try.func129 #[.int .i64 a0_0] rfl ?_; (with_reducible refine (spec_l10UsesB.calls kj1 a0_0 false _ A20.out).mono ?_); rintro e w32 ⟨rfl, hb⟩; refine ⟨_, rfl, ?_⟩; replace BK113 := bB BK113 hb; replace HB := bS hb; (try clear hb); obtain ⟨_, _, _, _, _, _, _, _, _, _⟩ := cel5 BK113))
   go_ret
   exact ⟨xq1, belA⟩

def spec_l01Bytes.l0 : Nat → List Int → List Int → Int → Option (List Int)
 | 0, _, _, _ => none
 | k + 1, x0, x3, x4 => if x4 < (x0.length : Int) then (if 0 ≤ x4 then (if x3.length < 140737488355328 then (spec_l01Bytes.l0 k x0 (x3 ++ [rd x0 x4]) (wrap64 (x4 + 1))) else (none)) else (none)) else (some x3)
def spec_l01Bytes.f (k : Nat) (l0 : List Int) : Option (List Int) := spec_l01Bytes.l0 k l0 (([] : List Int)) 0
theorem spec_l01Bytes.mono_l : ∀ k, (∀ y0 y1 y2, LeO (spec_l01Bytes.l0 k y0 y1 y2) (spec_l01Bytes.l0 (k + 1) y0 y1 y2))
 | 0 => fun _ _ _ r h => by simp [spec_l01Bytes.l0] at h
 | k + 1 => by
  have ih0 := spec_l01Bytes.mono_l k
  · intro y0 y1 y2; unfold spec_l01Bytes.l0; exact xq5
theorem spec_l01Bytes.mono : ∀ a0 k, LeO (spec_l01Bytes.f k a0) (spec_l01Bytes.f (k + 1) a0) := by
 intro a0 k; have ih0 := spec_l01Bytes.mono_l k
 unfold spec_l01Bytes.f
 exact xq5
theorem spec_l01Bytes.calls (k : Nat) (A0 : Option Addr) (c0 : Nat) (l0 : List Int) (r : List Int) (w : World) (hr0 : Kd.C (Kd.int .u8) w A0 l0.length l0) (hc0 : l0.length ≤ c0) (h : spec_l01Bytes.f k l0 = some r) :
 Calls Try.prog 106 #[.slice A0 l0.length c0] w fun e w' => ∃ v0_ : Value, e = .returned (v0_) ∧ Kd.R (Kd.int .u8) 5 w' w.heap.size (fun _ => True) v0_ r ∧ Below w.heap.size w w' := by
 have HR0 := ak hr0; have HC0 := ak hc0; clear hr0 hc0; have HB := ak (Below.refl w.heap.size w); have H : (spec_l01Bytes.l0 k l0 (([] : List Int)) 0) = some r := h; clear h; obtain ⟨y120, hyq⟩ : ∃ y_ : List Int, y_ = (([] : List Int)) := ⟨_, rfl⟩; replace H : (spec_l01Bytes.l0 k l0 y120 0) = some r := by first | (rw [hyq]; with_reducible exact H) | (have H2_ := (Option.bind_some _ _).symm.trans H; rw [hyq]; with_reducible exact H2_) | (have H2_ := (Option.bind_some _ _).symm.trans H; with_reducible exact H2_) | with_reducible exact H | (rw [hyq]; exact H) | exact H
 have Ny120 := ak hyq; clear hyq; have H' := ak H; clear H; go_enter Try.func106, Try.ntmps106
 go_wp2_with (first | ((with_reducible refine gate_dst (N := 5) rfl ?_); refine Kd.R_lit (Kd.int .u8) _ 5 ?hg (N := 5) ?hd (xs := ([] : List Int)) (inner := []) (ok := fun _ => True) (okp := fun _ => True) ?hr ?hp (fun _ hk => hk) trivial (Below.refl _ _) (Nat.le_refl _) (by simp) ?_; (case hd => rfl); (case hg => rfl); (case hr => exact xq4); (case hp => exact (Reps.none _ _)); intro v121 w2 ho3 hb hg_ hnew_; clear hg_ hnew_; (first | rw [← Ny120.out] at ho3 | (simp only [Int.reduceToNat] at ho3; rw [← Ny120.out] at ho3)); have HO122 := rL ho3; replace HB := bS hb; clear hb ho3))
 go_loopg [3, 4] k (fun kq v3 v4 w' => ∃ (x3_1 : List Int) (x4_1 : Int), v4 = .int .i64 x4_1 ∧ Aside0 (spec_l01Bytes.l0 kq l0 x3_1 x4_1 = some r) ∧ Aside0 (kq ≤ k) ∧ Aside0 (Kd.R (Kd.int .u8) 5 w' w.heap.size (fun _ => True) v3 x3_1) ∧ Aside0 (Below w.heap.size w w'))
 case atStart => exact ⟨(y120), (0), eqA, H', ⟨Nat.le_refl _⟩, ⟨rA HO122⟩, ⟨belA⟩⟩
 case round =>
  clear H'; obtain ⟨x3_1, x4_1, rfl, HA, HK1, HO_3, HB⟩ := hrel
  cases gk with
  | zero => exact absurd HA.out (by simp [spec_l01Bytes.l0])
  | succ k1 =>
   have H := HA.out; clear HA; simp only [spec_l01Bytes.l0] at H
   by_cases c4 : x4_1 < (l0.length : Int); rotate_left
   · rw [if_neg c4] at H; have c4b0 := decide_eq_false c4; clear c4; obtain rfl := Option.some.inj H; go_wp2
     go_ret
     exact ⟨_, xq1, xq22, belA⟩
   rw [if_pos c4] at H; have c4b0 := decide_eq_true c4; clear c4
   by_cases c5 : 0 ≤ x4_1; rotate_left
   · rw [if_neg c5] at H; exact absurd H (by simp)
   rw [if_pos c5] at H; have c5b0 := decide_eq_true c5; clear c5
   by_cases c6 : x3_1.length < 140737488355328; rotate_left
   · rw [if_neg c6] at H; exact absurd H (by simp)
   rw [if_pos c6] at H; have LMc6 := ak c6; clear c6; obtain ⟨y124, hyq⟩ : ∃ y_ : List Int, y_ = (x3_1 ++ [rd l0 x4_1]) := ⟨_, rfl⟩; replace H : (spec_l01Bytes.l0 k1 l0 y124 (wrap64 (x4_1 + 1))) = some r := by first | (rw [hyq]; with_reducible exact H) | (have H2_ := (Option.bind_some _ _).symm.trans H; rw [hyq]; with_reducible exact H2_) | (have H2_ := (Option.bind_some _ _).symm.trans H; with_reducible exact H2_) | with_reducible exact H | (rw [hyq]; exact H) | exact H
   have Ny124 := ak hyq; clear hyq; have H' := ak H; clear H; have p123 : 0 ≤ (x4_1 : Int) := odA; have q123 : x4_1 < (l0.length : Int) := odA; obtain ⟨ad123, e123, hx123_0⟩ := Kd.at_int HR0.out x4_1 p123 q123
   cases e123
   try replace hx123_0 := cB HB hx123_0
   replace p123 := eq_true p123; replace q123 := eq_true q123; go_wp2_with (first | ((with_reducible refine gate_builtin (b := .append) (xs := #[.tmp 12, .tmp 17]) rfl ?_); at_builtin; refine Kd.R_append (Kd.int .u8) (w0 := w) w.heap.size rfl (.tmp 12) (.tmp 17) 22 5 (.int .u8 0) 1 rfl Try.underlying22 info5 rfl (by decide) (by omega) u3 x3_1 (rd l0 x4_1) [.int .u8 (rd l0 x4_1)] (fun _ => True) (fun _ => False) rfl rfl ?aP (fun _ hk => hk.elim) ?aF ?aO ?aB ?aS ?aL ?_; (case aP => exact rfl); (case aB => exact belA); (case aF => exact (fun _ _ => trivial)); (case aO => exact (rF HO_3)); (case aS => exact (below_size belA)); (case aL => have := LMc6.out; omega); intro v125 w7 ho hb hg hat; rw [← Ny124.out] at ho; have HO126 := ak ho; replace HB := ak hb; clear HO_3; clear ho hb hg hat))
   go_roundg k1
   case measure => have := HK1.out; omega
   case rel => exact ⟨(y124), (wrap64 (x4_1 + 1)), eqA, H', ⟨xq6⟩, ⟨rA HO126⟩, ⟨belA⟩⟩

def spec_l01Join.l0 : Nat → List Int → List Int → Int → Option (List Int)
 | 0, _, _, _ => none
 | k + 1, x1, x5, x6 => if x6 < (x1.length : Int) then (if 0 ≤ x6 then (if x5.length < 140737488355328 then (spec_l01Join.l0 k x1 (x5 ++ [rd x1 x6]) (wrap64 (x6 + 1))) else (none)) else (none)) else (some x5)
def spec_l01Join.f (k : Nat) (l0 : List Int) (l1 : List Int) : Option (List Int) := (spec_l01Bytes.f k l0).bind fun t127 => (spec_l01Join.l0 k l1 t127 0)
theorem spec_l01Join.mono_l : ∀ k, (∀ y0 y1 y2, LeO (spec_l01Join.l0 k y0 y1 y2) (spec_l01Join.l0 (k + 1) y0 y1 y2))
 | 0 => fun _ _ _ r h => by simp [spec_l01Join.l0] at h
 | k + 1 => by
  have ih0 := spec_l01Join.mono_l k
  · intro y0 y1 y2; unfold spec_l01Join.l0; exact xq37
theorem spec_l01Join.mono : ∀ a0 a1 k, LeO (spec_l01Join.f k a0 a1) (spec_l01Join.f (k + 1) a0 a1) := by
 intro a0 a1 k; have ih0 := spec_l01Join.mono_l k
 unfold spec_l01Join.f
 exact xq37
theorem spec_l01Join.calls (k : Nat) (A0 : Option Addr) (c0 : Nat) (l0 : List Int) (A1 : Option Addr) (c1 : Nat) (l1 : List Int) (r : List Int) (w : World) (hr0 : Kd.C (Kd.int .u8) w A0 l0.length l0) (hc0 : l0.length ≤ c0) (hr1 : Kd.C (Kd.int .u8) w A1 l1.length l1) (hc1 : l1.length ≤ c1) (h : spec_l01Join.f k l0 l1 = some r) :
 Calls Try.prog 75 #[.slice A0 l0.length c0, .slice A1 l1.length c1] w fun e w' => ∃ v0_ : Value, e = .returned (v0_) ∧ Kd.R (Kd.int .u8) 5 w' w.heap.size (fun _ => True) v0_ r ∧ Below w.heap.size w w' := by
 have HR0 := ak hr0; have HC0 := ak hc0; clear hr0 hc0; have HR1 := ak hr1; have HC1 := ak hc1; clear hr1 hc1; have HB := ak (Below.refl w.heap.size w); have H : ((spec_l01Bytes.f k l0).bind fun t127 => (spec_l01Join.l0 k l1 t127 0)) = some r := h; clear h; replace H := Option.bind_eq_some_iff.mp H; obtain ⟨t127, A30, H⟩ := H; (try dsimp only at H); have A3 := ak A30; clear A30; have H' := ak H; clear H; go_enter Try.func75, Try.ntmps75
 go_wp2_with (first | ((with_reducible refine gate_callee (f := 106) rfl ?_); refine goB 8 Try.func106 #[.slice A0 l0.length c0] rfl ?_; (with_reducible refine (spec_l01Bytes.calls k _ _ l0 t127 _ ?side1 ?side2 A3.out).mono ?_); (case side1 => exact cA HR0.out); (case side2 => exact HC0.out); rintro e w4 ⟨v128, rfl, ho0, hb⟩; refine ⟨_, rfl, ?_⟩; have HO129 := rL ho0; replace HB := bS hb; (try clear hb ho0)))
 go_loopg [5, 6] k (fun kq v5 v6 w' => ∃ (x5_1 : List Int) (x6_1 : Int), v6 = .int .i64 x6_1 ∧ Aside0 (spec_l01Join.l0 kq l1 x5_1 x6_1 = some r) ∧ Aside0 (kq ≤ k) ∧ Aside0 (Kd.R (Kd.int .u8) 5 w' w.heap.size (fun _ => True) v5 x5_1) ∧ Aside0 (Below w.heap.size w w'))
 case atStart => exact ⟨(t127), (0), eqA, H', ⟨Nat.le_refl _⟩, ⟨rA HO129⟩, ⟨belA⟩⟩
 case round =>
  clear H'; obtain ⟨x5_1, x6_1, rfl, HA, HK1, HO_5, HB⟩ := hrel
  cases gk with
  | zero => exact absurd HA.out (by simp [spec_l01Join.l0])
  | succ k1 =>
   have H := HA.out; clear HA; simp only [spec_l01Join.l0] at H
   by_cases c5 : x6_1 < (l1.length : Int); rotate_left
   · rw [if_neg c5] at H; have c5b0 := decide_eq_false c5; clear c5; obtain rfl := Option.some.inj H; go_wp2
     go_ret
     exact ⟨_, xq1, xq23, belA⟩
   rw [if_pos c5] at H; have c5b0 := decide_eq_true c5; clear c5
   by_cases c6 : 0 ≤ x6_1; rotate_left
   · rw [if_neg c6] at H; exact absurd H (by simp)
   rw [if_pos c6] at H; have c6b0 := decide_eq_true c6; clear c6
   by_cases c7 : x5_1.length < 140737488355328; rotate_left
   · rw [if_neg c7] at H; exact absurd H (by simp)
   rw [if_pos c7] at H; have LMc7 := ak c7; clear c7; obtain ⟨y131, hyq⟩ : ∃ y_ : List Int, y_ = (x5_1 ++ [rd l1 x6_1]) := ⟨_, rfl⟩; replace H : (spec_l01Join.l0 k1 l1 y131 (wrap64 (x6_1 + 1))) = some r := by first | (rw [hyq]; with_reducible exact H) | (have H2_ := (Option.bind_some _ _).symm.trans H; rw [hyq]; with_reducible exact H2_) | (have H2_ := (Option.bind_some _ _).symm.trans H; with_reducible exact H2_) | with_reducible exact H | (rw [hyq]; exact H) | exact H
   have Ny131 := ak hyq; clear hyq; have H' := ak H; clear H; have p130 : 0 ≤ (x6_1 : Int) := odA; have q130 : x6_1 < (l1.length : Int) := odA; obtain ⟨ad130, e130, hx130_0⟩ := Kd.at_int HR1.out x6_1 p130 q130
   cases e130
   try replace hx130_0 := cB HB hx130_0
   replace p130 := eq_true p130; replace q130 := eq_true q130; go_wp2_with (first | ((with_reducible refine gate_builtin (b := .append) (xs := #[.tmp 15, .tmp 20]) rfl ?_); at_builtin; refine Kd.R_append (Kd.int .u8) (w0 := w) w.heap.size rfl (.tmp 15) (.tmp 20) 22 5 (.int .u8 0) 1 rfl Try.underlying22 info5 rfl (by decide) (by omega) u5 x5_1 (rd l1 x6_1) [.int .u8 (rd l1 x6_1)] (fun _ => True) (fun _ => False) rfl rfl ?aP (fun _ hk => hk.elim) ?aF ?aO ?aB ?aS ?aL ?_; (case aP => exact rfl); (case aB => exact belA); (case aF => exact (fun _ _ => trivial)); (case aO => exact (rF HO_5)); (case aS => exact (below_size belA)); (case aL => have := LMc7.out; omega); intro v132 w8 ho hb hg hat; rw [← Ny131.out] at ho; have HO133 := ak ho; replace HB := ak hb; clear HO_5; clear ho hb hg hat))
   go_roundg k1
   case measure => have := HK1.out; omega
   case rel => exact ⟨(y131), (wrap64 (x6_1 + 1)), eqA, H', ⟨xq6⟩, ⟨rA HO133⟩, ⟨belA⟩⟩

def spec_FrameOk.f (a0_0 : Int) (a0_1 : Int) (l0_2 : List Int) : Option (Bool) := (spec_l01In.f a0_0 0 99).bind fun t135 => (if t135 = true then ((spec_l01In.f a0_1 0 2147483647).bind fun t136 => (if t136 = true then (some (decide ((l0_2.length : Int) ≤ 5000))) else (some false))) else (some false))
theorem spec_FrameOk.calls (a0_0 : Int) (a0_1 : Int) (A0_2 : Option Addr) (c0_2 : Nat) (l0_2 : List Int) (r : Bool) (w : World) (hr0_2 : Kd.C (Kd.int .u8) w A0_2 l0_2.length l0_2) (hc0_2 : l0_2.length ≤ c0_2) (h : spec_FrameOk.f a0_0 a0_1 l0_2 = some r) :
 Calls Try.prog 130 #[.agg #[.int .i64 a0_0, .int .i64 a0_1, .slice A0_2 l0_2.length c0_2]] w fun e w' => e = .returned (.bool r) ∧ Below w.heap.size w w' := by
 have hu109 := Try.underlying109; have HR0_2 := ak hr0_2; have HC0_2 := ak hc0_2; clear hr0_2 hc0_2; have HB := ak (Below.refl w.heap.size w); have H : ((spec_l01In.f a0_0 0 99).bind fun t135 => (if t135 = true then ((spec_l01In.f a0_1 0 2147483647).bind fun t136 => (if t136 = true then (some (decide ((l0_2.length : Int) ≤ 5000))) else (some false))) else (some false))) = some r := h; clear h; replace H := Option.bind_eq_some_iff.mp H; obtain ⟨t135, A20, H⟩ := H; (try dsimp only at H); have A2 := ak A20; clear A20
 by_cases c3 : t135 = true; rotate_left
 · replace c3 := Bool.eq_false_iff.mpr c3; subst c3; have H1 : (some false) = some r := by rw [if_neg (show ¬ (false = true) by decide)] at H; exact H
   clear H; have H := H1; clear H1; obtain rfl := Option.some.inj H; go_enter Try.func130, Try.ntmps130
   go_wp2_with (first | ((with_reducible refine gate_dst (N := 1) rfl ?_); (try (refine gate_guard (by rfl) ?_; dsimp only)); refine boxA 1 #[.int .i64 a0_0, .int .i64 a0_1, .slice A0_2 l0_2.length c0_2] 109 ?_; intro gb134 hg w10 hbox hb; have BK134 := ak hbox; have GW134 := leA (w := w) hg; have GE134 := leA (w := w) hg; replace HB := bS hb; clear hb hbox hg; obtain ⟨_, _, _, _, _, _⟩ := cel3 BK134) | ((with_reducible refine gate_callee (f := 60) rfl ?_); refine goB 5 Try.func60 #[.int .i64 a0_0, .int .i64 0, .int .i64 99] rfl ?_; (with_reducible refine (spec_l01In.calls a0_0 0 99 false _ A2.out).mono ?_); rintro e w' ⟨rfl, ⟨nd, rfl⟩⟩; refine ⟨_, rfl, ?_⟩))
   go_ret
   exact ⟨xq1, belA⟩
 subst c3; have H1 : ((spec_l01In.f a0_1 0 2147483647).bind fun t136 => (if t136 = true then (some (decide ((l0_2.length : Int) ≤ 5000))) else (some false))) = some r := by rw [if_pos rfl] at H; exact H
 clear H; have H := H1; clear H1; replace H := Option.bind_eq_some_iff.mp H; obtain ⟨t136, A40, H⟩ := H; (try dsimp only at H); have A4 := ak A40; clear A40
 by_cases c5 : t136 = true
 · subst c5; have H1 : (some (decide ((l0_2.length : Int) ≤ 5000))) = some r := by rw [if_pos rfl] at H; exact H
   clear H; have H := H1; clear H1; obtain rfl := Option.some.inj H; go_enter Try.func130, Try.ntmps130
   go_wp2_with (first | ((with_reducible refine gate_dst (N := 1) rfl ?_); (try (refine gate_guard (by rfl) ?_; dsimp only)); refine boxA 1 #[.int .i64 a0_0, .int .i64 a0_1, .slice A0_2 l0_2.length c0_2] 109 ?_; intro gb134 hg w6 hbox hb; have BK134 := ak hbox; have GW134 := leA (w := w) hg; have GE134 := leA (w := w) hg; replace HB := bS hb; clear hb hbox hg; obtain ⟨_, _, _, _, _, _⟩ := cel3 BK134) | ((with_reducible refine gate_callee (f := 60) rfl ?_); refine goB 5 Try.func60 #[.int .i64 a0_0, .int .i64 0, .int .i64 99] rfl ?_; (with_reducible refine (spec_l01In.calls a0_0 0 99 true _ A2.out).mono ?_); rintro e w' ⟨rfl, ⟨nd, rfl⟩⟩; refine ⟨_, rfl, ?_⟩) | (go_at_call 60; (with_reducible refine (spec_l01In.calls a0_1 0 2147483647 true _ A4.out).mono ?_); rintro e w' ⟨rfl, ⟨nd, rfl⟩⟩))
   go_ret
   exact ⟨xq1, belA⟩
 replace c5 := Bool.eq_false_iff.mpr c5; subst c5; have H1 : (some false) = some r := by rw [if_neg (show ¬ (false = true) by decide)] at H; exact H
 clear H; have H := H1; clear H1; obtain rfl := Option.some.inj H; go_enter Try.func130, Try.ntmps130
 go_wp2_with (first | ((with_reducible refine gate_dst (N := 1) rfl ?_); (try (refine gate_guard (by rfl) ?_; dsimp only)); refine boxA 1 #[.int .i64 a0_0, .int .i64 a0_1, .slice A0_2 l0_2.length c0_2] 109 ?_; intro gb134 hg w8 hbox hb; have BK134 := ak hbox; have GW134 := leA (w := w) hg; have GE134 := leA (w := w) hg; replace HB := bS hb; clear hb hbox hg; obtain ⟨_, _, _, _, _, _⟩ := cel3 BK134) | ((with_reducible refine gate_callee (f := 60) rfl ?_); refine goB 5 Try.func60 #[.int .i64 a0_0, .int .i64 0, .int .i64 99] rfl ?_; (with_reducible refine (spec_l01In.calls a0_0 0 99 true _ A2.out).mono ?_); rintro e w' ⟨rfl, ⟨nd, rfl⟩⟩; refine ⟨_, rfl, ?_⟩) | (go_at_call 60; (with_reducible refine (spec_l01In.calls a0_1 0 2147483647 false _ A4.out).mono ?_); rintro e w' ⟨rfl, ⟨nd, rfl⟩⟩))
 go_ret
 exact ⟨xq1, belA⟩

def spec_l11Wide.l0 : Nat → Int → List Int → Int → Option (List Int)
 | 0, _, _, _ => none
 | k + 1, x0, x5, x6 => if x6 ≥ 0 then (if 0 ≤ (IntKind.u64.wrap (wrap64 (8 * x6))) then (if x5.length < 140737488355328 then (spec_l11Wide.l0 k x0 (x5 ++ [(Go.bits .and .i64 (shr .i64 x0 (IntKind.u64.wrap (wrap64 (8 * x6)))) 255) % 256]) (wrap64 (x6 - 1))) else (none)) else (none)) else (some x5)
def spec_l11Wide.f (k : Nat) (a0 : Int) (a1 : Int) : Option (List Int) := spec_l11Wide.l0 k a0 (([] : List Int)) (wrap64 (a1 - 1))
theorem spec_l11Wide.mono_l : ∀ k, (∀ y0 y1 y2, LeO (spec_l11Wide.l0 k y0 y1 y2) (spec_l11Wide.l0 (k + 1) y0 y1 y2))
 | 0 => fun _ _ _ r h => by simp [spec_l11Wide.l0] at h
 | k + 1 => by
  have ih0 := spec_l11Wide.mono_l k
  · intro y0 y1 y2; unfold spec_l11Wide.l0; exact xq5
theorem spec_l11Wide.mono : ∀ a0 a1 k, LeO (spec_l11Wide.f k a0 a1) (spec_l11Wide.f (k + 1) a0 a1) := by
 intro a0 a1 k; have ih0 := spec_l11Wide.mono_l k
 unfold spec_l11Wide.f
 exact xq5
theorem spec_l11Wide.calls (k : Nat) (a0 : Int) (a1 : Int) (r : List Int) (w : World) (h : spec_l11Wide.f k a0 a1 = some r) :
 Calls Try.prog 131 #[.int .i64 a0, .int .i64 a1] w fun e w' => ∃ v0_ : Value, e = .returned (v0_) ∧ Kd.R (Kd.int .u8) 5 w' w.heap.size (fun _ => True) v0_ r ∧ Below w.heap.size w w' := by
 have HB := ak (Below.refl w.heap.size w); have H : (spec_l11Wide.l0 k a0 (([] : List Int)) (wrap64 (a1 - 1))) = some r := h; clear h; obtain ⟨y137, hyq⟩ : ∃ y_ : List Int, y_ = (([] : List Int)) := ⟨_, rfl⟩; replace H : (spec_l11Wide.l0 k a0 y137 (wrap64 (a1 - 1))) = some r := by first | (rw [hyq]; with_reducible exact H) | (have H2_ := (Option.bind_some _ _).symm.trans H; rw [hyq]; with_reducible exact H2_) | (have H2_ := (Option.bind_some _ _).symm.trans H; with_reducible exact H2_) | with_reducible exact H | (rw [hyq]; exact H) | exact H
 have Ny137 := ak hyq; clear hyq; have H' := ak H; clear H; go_enter Try.func131, Try.ntmps131
 go_wp2_with (first | ((with_reducible refine gate_dst (N := 7) rfl ?_); refine Kd.R_lit (Kd.int .u8) _ 5 ?hg (N := 7) ?hd (xs := ([] : List Int)) (inner := []) (ok := fun _ => True) (okp := fun _ => True) ?hr ?hp (fun _ hk => hk) trivial (Below.refl _ _) (Nat.le_refl _) (by simp) ?_; (case hd => rfl); (case hg => rfl); (case hr => exact xq4); (case hp => exact (Reps.none _ _)); intro v138 w3 ho4 hb hg_ hnew_; clear hg_ hnew_; (first | rw [← Ny137.out] at ho4 | (simp only [Int.reduceToNat] at ho4; rw [← Ny137.out] at ho4)); have HO139 := rL ho4; replace HB := bS hb; clear hb ho4))
 go_loopg [5, 6] k (fun kq v5 v6 w' => ∃ (x5_1 : List Int) (x6_1 : Int), v6 = .int .i64 x6_1 ∧ Aside0 (spec_l11Wide.l0 kq a0 x5_1 x6_1 = some r) ∧ Aside0 (kq ≤ k) ∧ Aside0 (Kd.R (Kd.int .u8) 5 w' w.heap.size (fun _ => True) v5 x5_1) ∧ Aside0 (Below w.heap.size w w'))
 case atStart => exact ⟨(y137), (wrap64 (a1 - 1)), eqA, H', ⟨Nat.le_refl _⟩, ⟨rA HO139⟩, ⟨belA⟩⟩
 case round =>
  clear H'; obtain ⟨x5_1, x6_1, rfl, HA, HK1, HO_5, HB⟩ := hrel
  cases gk with
  | zero => exact absurd HA.out (by simp [spec_l11Wide.l0])
  | succ k1 =>
   have H := HA.out; clear HA; simp only [spec_l11Wide.l0] at H
   by_cases c5 : x6_1 ≥ 0; rotate_left
   · rw [if_neg c5] at H; have c5b0 : decide (0 ≤ x6_1) = false := decide_eq_false c5; clear c5; obtain rfl := Option.some.inj H; go_wp2
     go_ret
     exact ⟨_, xq1, xq23, belA⟩
   rw [if_pos c5] at H; have c5b0 : decide (0 ≤ x6_1) = true := decide_eq_true c5; clear c5; obtain ⟨ji6, hji6⟩ : ∃ j_ : Int, (IntKind.u64.wrap (wrap64 (8 * x6_1))) = j_ := ⟨_, rfl⟩; replace H : (if 0 ≤ (ji6) then (if x5_1.length < 140737488355328 then (spec_l11Wide.l0 k1 a0 (x5_1 ++ [(Go.bits .and .i64 (shr .i64 a0 (ji6)) 255) % 256]) (wrap64 (x6_1 - 1))) else (none)) else (none)) = some r := by first | (rw [hji6] at H; exact H) | (simp only [hji6] at H ⊢; exact H)
   by_cases c7 : 0 ≤ (ji6); rotate_left
   · rw [if_neg c7] at H; exact absurd H (by simp)
   rw [if_pos c7] at H; have c7b0 := eq_true c7; have c7b1 : decide (0 ≤ (ji6)) = true := decide_eq_true c7; clear c7; obtain ⟨ji8, hji8⟩ : ∃ j_ : Int, (shr .i64 a0 (ji6)) = j_ := ⟨_, rfl⟩; replace H : (if x5_1.length < 140737488355328 then (spec_l11Wide.l0 k1 a0 (x5_1 ++ [(Go.bits .and .i64 (ji8) 255) % 256]) (wrap64 (x6_1 - 1))) else (none)) = some r := by first | (rw [hji8] at H; exact H) | (simp only [hji8] at H ⊢; exact H)
   have hji8_ : (a0 / 2 ^ min (ji6).toNat 64) = ji8 := hji8; have hji8z : (ji6) ≤ 64 → (a0 / 2 ^ (ji6).toNat) = ji8 := shr_small hji8
   by_cases c9 : x5_1.length < 140737488355328; rotate_left
   · rw [if_neg c9] at H; exact absurd H (by simp)
   rw [if_pos c9] at H; have LMc9 := ak c9; clear c9; obtain ⟨y140, hyq⟩ : ∃ y_ : List Int, y_ = (x5_1 ++ [(Go.bits .and .i64 (ji8) 255) % 256]) := ⟨_, rfl⟩; replace H : (spec_l11Wide.l0 k1 a0 y140 (wrap64 (x6_1 - 1))) = some r := by first | (rw [hyq]; with_reducible exact H) | (have H2_ := (Option.bind_some _ _).symm.trans H; rw [hyq]; with_reducible exact H2_) | (have H2_ := (Option.bind_some _ _).symm.trans H; with_reducible exact H2_) | with_reducible exact H | (rw [hyq]; exact H) | exact H
   have Ny140 := ak hyq; clear hyq; have H' := ak H; clear H; go_wp2_with (first | ((with_reducible refine gate_builtin (b := .append) (xs := #[.tmp 14, .tmp 22]) rfl ?_); at_builtin; refine Kd.R_append (Kd.int .u8) (w0 := w) w.heap.size rfl (.tmp 14) (.tmp 22) 22 5 (.int .u8 0) 1 rfl Try.underlying22 info5 rfl (by decide) (by omega) u5 x5_1 ((Go.bits .and .i64 (ji8) 255) % 256) [.int .u8 ((Go.bits .and .i64 (ji8) 255) % 256)] (fun _ => True) (fun _ => False) rfl rfl ?aP (fun _ hk => hk.elim) ?aF ?aO ?aB ?aS ?aL ?_; (case aP => exact rfl); (case aB => exact belA); (case aF => exact (fun _ _ => trivial)); (case aO => exact (rF HO_5)); (case aS => exact (below_size belA)); (case aL => have := LMc9.out; omega); intro v141 w10 ho hb hg hat; rw [← Ny140.out] at ho; have HO142 := ak ho; replace HB := ak hb; clear HO_5; clear ho hb hg hat))
   go_roundg k1
   case measure => have := HK1.out; omega
   case rel => exact ⟨(y140), (wrap64 (x6_1 - 1)), eqA, H', ⟨xq6⟩, ⟨rA HO142⟩, ⟨belA⟩⟩

end Go.Proofs.Ytbojabmpcfclhaa.PFnExactPackJobs

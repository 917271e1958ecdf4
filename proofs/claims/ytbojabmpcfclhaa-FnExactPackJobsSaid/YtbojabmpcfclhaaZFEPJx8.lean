-- Written by a program of this session (the print of the kit with contracts of this session's own added)
import Derived.Test.YtbojabmpcfclhaaZFEPJx7
set_option maxHeartbeats 8000000
set_option maxRecDepth 100000
namespace Go.Proofs.Ytbojabmpcfclhaa.PFnExactPackJobs
open Go.RowKit Go.Proofs.YtbojabmpcfclhaaW.PrintWords Go.Proofs.YtbojabmpcfclhaaW.PrintLast Go.Proofs.YtbojabmpcfclhaaW.PrintMore Go.Proofs.YtbojabmpcfclhaaW.PrintPack Go.Proofs.YtbojabmpcfclhaaW.PrintPack
set_option linter.unusedVariables false
set_option linter.unusedSimpArgs false

def impl_isJob.j0 : Nat → Bool → Int → Int → List Int → List Int → Int → Option (Bool)
 | 0, _, _, _, _, _, _ => none
 | k + 1, x32, x265000, x265001, x265002, x265003, x265004 => if x32 = true then (some false) else ((impl_areWords.f k x265002).bind fun t270 => (if t270 = true then ((impl_areWords.f k x265003).bind fun t271 => (if t271 = true then (if x265004 < 0 then (some false) else (if x265004 > 400 then (some false) else ((impl_usesB.f x265000).bind fun t272 => (if t272 = true then (if x265000 = 11 then (some true) else (some (x265004 == 0))) else (if (x265003.length : Int) = 0 then (if x265000 = 11 then (some true) else (some (x265004 == 0))) else (some false)))))) else (some false))) else (some false)))
def impl_isJob.f (k : Nat) (a0_0 : Int) (a0_1 : Int) (l0_2 : List Int) (l0_3 : List Int) (a0_4 : Int) : Option (Bool) := (impl_fieldOf.f a0_1).bind fun bt265 => (if bt265.2.2.2 = true then (if a0_0 < 1 then (impl_isJob.j0 k true a0_0 a0_1 l0_2 l0_3 a0_4) else (if a0_0 > 11 then (impl_isJob.j0 k true a0_0 a0_1 l0_2 l0_3 a0_4) else (if a0_0 = 6 then (impl_isJob.j0 k (a0_1 != 0) a0_0 a0_1 l0_2 l0_3 a0_4) else (impl_isJob.j0 k false a0_0 a0_1 l0_2 l0_3 a0_4)))) else (impl_isJob.j0 k true a0_0 a0_1 l0_2 l0_3 a0_4))
theorem impl_isJob.mono_l : ∀ k, (∀ y0 y1 y2 y3 y4 y5, LeO (impl_isJob.j0 k y0 y1 y2 y3 y4 y5) (impl_isJob.j0 (k + 1) y0 y1 y2 y3 y4 y5))
 | 0 => fun _ _ _ _ _ _ r h => by simp [impl_isJob.j0] at h
 | k + 1 => by
  have ih0 := impl_isJob.mono_l k
  · intro y0 y1 y2 y3 y4 y5; unfold impl_isJob.j0; exact xq41
theorem impl_isJob.mono : ∀ a0 a1 a2 a3 a4 k, LeO (impl_isJob.f k a0 a1 a2 a3 a4) (impl_isJob.f (k + 1) a0 a1 a2 a3 a4) := by
 intro a0 a1 a2 a3 a4 k; have ih0 := impl_isJob.mono_l k
 unfold impl_isJob.f
 exact xq41
theorem impl_isJob.calls (k : Nat) (a0_0 : Int) (a0_1 : Int) (A0_2 : Option Addr) (c0_2 : Nat) (l0_2 : List Int) (A0_3 : Option Addr) (c0_3 : Nat) (l0_3 : List Int) (a0_4 : Int) (r : Bool) (w : World) (hr0_2 : Kd.C (Kd.int .i64) w A0_2 l0_2.length l0_2) (hc0_2 : l0_2.length ≤ c0_2) (hr0_3 : Kd.C (Kd.int .i64) w A0_3 l0_3.length l0_3) (hc0_3 : l0_3.length ≤ c0_3) (h : impl_isJob.f k a0_0 a0_1 l0_2 l0_3 a0_4 = some r) :
 Calls Try.prog 79 #[.agg #[.int .i64 a0_0, .int .i64 a0_1, .slice A0_2 l0_2.length c0_2, .slice A0_3 l0_3.length c0_3, .int .i64 a0_4]] w fun e w' => e = .returned (.bool r) ∧ Below w.heap.size w w' := by
 have hu104 := Try.underlying104; have hu95 := Try.underlying95; have HR0_2 := ak hr0_2; have HC0_2 := ak hc0_2; clear hr0_2 hc0_2; have HR0_3 := ak hr0_3; have HC0_3 := ak hc0_3; clear hr0_3 hc0_3; have HB := ak (Below.refl w.heap.size w); have H : ((impl_fieldOf.f a0_1).bind fun bt265 => (if bt265.2.2.2 = true then (if a0_0 < 1 then (impl_isJob.j0 k true a0_0 a0_1 l0_2 l0_3 a0_4) else (if a0_0 > 11 then (impl_isJob.j0 k true a0_0 a0_1 l0_2 l0_3 a0_4) else (if a0_0 = 6 then (impl_isJob.j0 k (a0_1 != 0) a0_0 a0_1 l0_2 l0_3 a0_4) else (impl_isJob.j0 k false a0_0 a0_1 l0_2 l0_3 a0_4)))) else (impl_isJob.j0 k true a0_0 a0_1 l0_2 l0_3 a0_4))) = some r := h; clear h; replace H := Option.bind_eq_some_iff.mp H; obtain ⟨⟨t265, t266, t267, t268⟩, A20, H⟩ := H; (try dsimp only at H); have A2 := ak A20; clear A20; have HC3 := ak H; clear H; go_enter Try.func79, Try.ntmps79
 go_upto_region 2 with (first | ((with_reducible refine gate_dst (N := 1) rfl ?_); (try (refine gate_guard (by rfl) ?_; dsimp only)); refine boxA 1 #[.int .i64 a0_0, .int .i64 a0_1, .slice A0_2 l0_2.length c0_2, .slice A0_3 l0_3.length c0_3, .int .i64 a0_4] 104 ?_; intro gb264 hg w4 hbox hb; have BK264 := ak hbox; have GW264 := leA (w := w) hg; have GE264 := leA (w := w) hg; replace HB := bS hb; clear hb hbox hg; obtain ⟨_, _, _, _, _, _, _, _, _, _⟩ := cel5 BK264) | ((with_reducible refine gate_callee (f := 84) rfl ?_); refine goB 8 Try.func84 #[.int .i64 a0_1] rfl ?_; (with_reducible refine (impl_fieldOf.calls a0_1 t265 t266 t267 t268 _ A2.out).mono ?_); rintro e w6 ⟨rfl, hb⟩; refine ⟨_, rfl, ?_⟩; replace BK264 := bB BK264 hb; replace HB := bS hb; (try clear hb)) | ((with_reducible refine gate_dst (N := 3) rfl ?_); (try (refine gate_guard (by rfl) ?_; dsimp only)); refine boxA 3 #[.int .i64 0, .int .i64 0, .int .i64 0] 95 ?_; intro gb269 hg w7 hbox hb; have BK269 := ak hbox; have GW269 := leA (w := w) hg; have GE269 := leA (w := w) hg; have NB264_269 := neL hg BK264; have NB269_264 := neG hg BK264; replace BK264 := bB BK264 hb; replace HB := bS hb; clear hb hbox hg; have hnb8 := NB269_264.out; have hnc8 := NB264_269.out; obtain ⟨_, _, _, _, _, _⟩ := cel3 BK269))
 (try simp only [Act.put, sa, sb, sc])
 go_cut [32] (fun v32 wc => ∃ (kq : Nat) (x32_2 : Bool), v32 = .bool x32_2 ∧ Aside0 (impl_isJob.j0 kq x32_2 a0_0 a0_1 l0_2 l0_3 a0_4 = some r) ∧ Aside0 (kq ≤ k) ∧ Aside0 (wc.heap[gb264]? = some (.cells #[.int .i64 a0_0, .int .i64 a0_1, (.slice A0_2 l0_2.length c0_2), (.slice A0_3 l0_3.length c0_3), .int .i64 a0_4] 104 (0, 0))) ∧ Aside0 (wc.heap[gb269]? = some (.cells #[.int .i64 t265, .int .i64 t266, .int .i64 t267] 95 (0, 0))) ∧ Aside0 (Below w.heap.size w wc))
 case first =>
  have H := HC3.out; clear HC3
  by_cases c10 : t268 = true; rotate_left
  · replace c10 := Bool.eq_false_iff.mpr c10; subst c10; have H1 : (impl_isJob.j0 k true a0_0 a0_1 l0_2 l0_3 a0_4) = some r := by rw [if_neg (show ¬ (false = true) by decide)] at H; exact H
    clear H; have H := H1; clear H1; have H' := ak H; clear H; go_wp2
    go_meet
    case rel => exact ⟨_, (true), eqA, H', ⟨xq7⟩, ⟨xq12⟩, ⟨xq13⟩, ⟨belA⟩⟩
  subst c10; have H1 : (if a0_0 < 1 then (impl_isJob.j0 k true a0_0 a0_1 l0_2 l0_3 a0_4) else (if a0_0 > 11 then (impl_isJob.j0 k true a0_0 a0_1 l0_2 l0_3 a0_4) else (if a0_0 = 6 then (impl_isJob.j0 k (a0_1 != 0) a0_0 a0_1 l0_2 l0_3 a0_4) else (impl_isJob.j0 k false a0_0 a0_1 l0_2 l0_3 a0_4)))) = some r := by rw [if_pos rfl] at H; exact H
  clear H; have H := H1; clear H1
  by_cases c11 : a0_0 < 1
  · rw [if_pos c11] at H; have c11b0 := decide_eq_true c11; clear c11; (first | rw [c11b0] | (simp only [i64_w, i32_w]; rw [c11b0]) | skip)
    have H' := ak H; clear H; have hnb12 := NB264_269.out; have hnc12 := NB269_264.out; obtain ⟨_, _, _, _, _, _, _, _, _, _⟩ := cel5 BK264; go_wp2
    go_meet
    case rel => exact ⟨_, (true), eqA, H', ⟨xq7⟩, ⟨xq12⟩, ⟨xq13⟩, ⟨belA⟩⟩
  rw [if_neg c11] at H; have c11b0 := decide_eq_false c11; clear c11; (first | rw [c11b0] | (simp only [i64_w, i32_w]; rw [c11b0]) | skip)
  by_cases c14 : a0_0 > 11
  · rw [if_pos c14] at H; have c14b0 : decide (11 < a0_0) = true := decide_eq_true c14; clear c14; have H' := ak H; clear H; have hnb15 := NB264_269.out; have hnc15 := NB269_264.out; obtain ⟨_, _, _, _, _, _, _, _, _, _⟩ := cel5 BK264; go_wp2
    go_meet
    case rel => exact ⟨_, (true), eqA, H', ⟨xq7⟩, ⟨xq12⟩, ⟨xq13⟩, ⟨belA⟩⟩
  rw [if_neg c14] at H; have c14b0 : decide (11 < a0_0) = false := decide_eq_false c14; clear c14
  by_cases c17 : a0_0 = 6; rotate_left
  · rw [if_neg c17] at H; have c17b0 : (a0_0 == 6) = false := beq_eq_false_iff_ne.mpr c17; have c17b1 : (a0_0 != 6) = true := bne_iff_ne.mpr c17; have H' := ak H; clear H; have hnb20 := NB264_269.out; have hnc20 := NB269_264.out; obtain ⟨_, _, _, _, _, _, _, _, _, _⟩ := cel5 BK264; go_wp2
    go_meet
    case rel => exact ⟨_, (false), eqA, H', ⟨xq7⟩, ⟨xq12⟩, ⟨xq13⟩, ⟨belA⟩⟩
  rw [if_pos c17] at H; have c17b0 : (a0_0 == 6) = true := beq_iff_eq.mpr c17; have c17b1 : (a0_0 != 6) = false := bne_eq_false_iff_eq.mpr c17; clear c17; have H' := ak H; clear H; have hnb18 := NB264_269.out; have hnc18 := NB269_264.out; obtain ⟨_, _, _, _, _, _, _, _, _, _⟩ := cel5 BK264; go_wp2
  go_meet
  case rel => exact ⟨_, ((a0_1 != 0)), eqA, H', ⟨xq7⟩, ⟨xq12⟩, ⟨xq13⟩, ⟨belA⟩⟩
 case rest =>
  clear HC3; obtain ⟨kq, x32_2, rfl, HA, HJ2, BK264, BK269, HB⟩ := hcut
  cases kq with
  | zero => exact absurd HA.out (by simp [impl_isJob.j0])
  | succ kj2 =>
   have H := HA.out; clear HA; simp only [impl_isJob.j0] at H
   by_cases c22 : x32_2 = true
   · subst c22; have H1 : (some false) = some r := by rw [if_pos rfl] at H; exact H
     clear H; have H := H1; clear H1; obtain rfl := Option.some.inj H; go_wp2
     go_ret
     exact ⟨xq1, belA⟩
   replace c22 := Bool.eq_false_iff.mpr c22; subst c22; have H1 : ((impl_areWords.f kj2 l0_2).bind fun t270 => (if t270 = true then ((impl_areWords.f kj2 l0_3).bind fun t271 => (if t271 = true then (if a0_4 < 0 then (some false) else (if a0_4 > 400 then (some false) else ((impl_usesB.f a0_0).bind fun t272 => (if t272 = true then (if a0_0 = 11 then (some true) else (some (a0_4 == 0))) else (if (l0_3.length : Int) = 0 then (if a0_0 = 11 then (some true) else (some (a0_4 == 0))) else (some false)))))) else (some false))) else (some false))) = some r := by rw [if_neg (show ¬ (false = true) by decide)] at H; exact H
   clear H; have H := H1; clear H1; replace H := Option.bind_eq_some_iff.mp H; obtain ⟨t270, A230, H⟩ := H; (try dsimp only at H); have A23 := ak A230; clear A230
   by_cases c24 : t270 = true; rotate_left
   · replace c24 := Bool.eq_false_iff.mpr c24; subst c24; have H1 : (some false) = some r := by rw [if_neg (show ¬ (false = true) by decide)] at H; exact H
     clear H; have H := H1; clear H1; obtain rfl := Option.some.inj H; have hnb50 := NB264_269.out; have hnc50 := NB269_264.out; obtain ⟨_, _, _, _, _, _, _, _, _, _⟩ := cel5 BK264; go_wp2_with (first | ((with_reducible refine gate_callee (f := 135) rfl ?_); refine goB 35 Try.func135 #[.slice A0_2 l0_2.length c0_2] rfl ?_; (with_reducible refine (impl_areWords.calls kj2 _ _ l0_2 false _ ?side1 ?side2 A23.out).mono ?_); (case side1 => exact cA (Kd.C_below HR0_2.out HB.out)); (case side2 => exact HC0_2.out); rintro e w' ⟨rfl, ⟨nd, rfl⟩⟩; refine ⟨_, rfl, ?_⟩))
     go_ret
     exact ⟨xq1, belA⟩
   subst c24; have H1 : ((impl_areWords.f kj2 l0_3).bind fun t271 => (if t271 = true then (if a0_4 < 0 then (some false) else (if a0_4 > 400 then (some false) else ((impl_usesB.f a0_0).bind fun t272 => (if t272 = true then (if a0_0 = 11 then (some true) else (some (a0_4 == 0))) else (if (l0_3.length : Int) = 0 then (if a0_0 = 11 then (some true) else (some (a0_4 == 0))) else (some false)))))) else (some false))) = some r := by rw [if_pos rfl] at H; exact H
   clear H; have H := H1; clear H1; replace H := Option.bind_eq_some_iff.mp H; obtain ⟨t271, A250, H⟩ := H; (try dsimp only at H); have A25 := ak A250; clear A250
   by_cases c26 : t271 = true; rotate_left
   · replace c26 := Bool.eq_false_iff.mpr c26; subst c26; have H1 : (some false) = some r := by rw [if_neg (show ¬ (false = true) by decide)] at H; exact H
     clear H; have H := H1; clear H1; obtain rfl := Option.some.inj H; have hnb48 := NB264_269.out; have hnc48 := NB269_264.out; obtain ⟨_, _, _, _, _, _, _, _, _, _⟩ := cel5 BK264; go_wp2_with (first | ((with_reducible refine gate_callee (f := 135) rfl ?_); refine goB 35 Try.func135 #[.slice A0_2 l0_2.length c0_2] rfl ?_; (with_reducible refine (impl_areWords.calls kj2 _ _ l0_2 true _ ?side1 ?side2 A23.out).mono ?_); (case side1 => exact cA (Kd.C_below HR0_2.out HB.out)); (case side2 => exact HC0_2.out); rintro e w' ⟨rfl, ⟨nd, rfl⟩⟩; refine ⟨_, rfl, ?_⟩) | (go_at_call 135; (with_reducible refine (impl_areWords.calls kj2 _ _ l0_3 false _ ?side1 ?side2 A25.out).mono ?_); (case side1 => exact cA (Kd.C_below HR0_3.out belA)); (case side2 => exact HC0_3.out); rintro e w' ⟨rfl, ⟨nd, rfl⟩⟩))
     go_ret
     exact ⟨xq1, belA⟩
   subst c26; have H1 : (if a0_4 < 0 then (some false) else (if a0_4 > 400 then (some false) else ((impl_usesB.f a0_0).bind fun t272 => (if t272 = true then (if a0_0 = 11 then (some true) else (some (a0_4 == 0))) else (if (l0_3.length : Int) = 0 then (if a0_0 = 11 then (some true) else (some (a0_4 == 0))) else (some false)))))) = some r := by rw [if_pos rfl] at H; exact H
   clear H; have H := H1; clear H1
   by_cases c27 : a0_4 < 0
   · rw [if_pos c27] at H; have c27b0 := decide_eq_true c27; clear c27; obtain rfl := Option.some.inj H; have hnb28 := NB264_269.out; have hnc28 := NB269_264.out; obtain ⟨_, _, _, _, _, _, _, _, _, _⟩ := cel5 BK264; go_wp2_with (first | ((with_reducible refine gate_callee (f := 135) rfl ?_); refine goB 35 Try.func135 #[.slice A0_2 l0_2.length c0_2] rfl ?_; (with_reducible refine (impl_areWords.calls kj2 _ _ l0_2 true _ ?side1 ?side2 A23.out).mono ?_); (case side1 => exact cA (Kd.C_below HR0_2.out HB.out)); (case side2 => exact HC0_2.out); rintro e w' ⟨rfl, ⟨nd, rfl⟩⟩; refine ⟨_, rfl, ?_⟩) | (go_at_call 135; (with_reducible refine (impl_areWords.calls kj2 _ _ l0_3 true _ ?side1 ?side2 A25.out).mono ?_); (case side1 => exact cA (Kd.C_below HR0_3.out belA)); (case side2 => exact HC0_3.out); rintro e w' ⟨rfl, ⟨nd, rfl⟩⟩))
     go_ret
     exact ⟨xq1, belA⟩
   rw [if_neg c27] at H; have c27b0 := decide_eq_false c27; clear c27
   by_cases c30 : a0_4 > 400
   · rw [if_pos c30] at H; have c30b0 : decide (400 < a0_4) = true := decide_eq_true c30; clear c30; obtain rfl := Option.some.inj H; have hnb31 := NB264_269.out; have hnc31 := NB269_264.out; obtain ⟨_, _, _, _, _, _, _, _, _, _⟩ := cel5 BK264; go_wp2_with (first | ((with_reducible refine gate_callee (f := 135) rfl ?_); refine goB 35 Try.func135 #[.slice A0_2 l0_2.length c0_2] rfl ?_; (with_reducible refine (impl_areWords.calls kj2 _ _ l0_2 true _ ?side1 ?side2 A23.out).mono ?_); (case side1 => exact cA (Kd.C_below HR0_2.out HB.out)); (case side2 => exact HC0_2.out); rintro e w' ⟨rfl, ⟨nd, rfl⟩⟩; refine ⟨_, rfl, ?_⟩) | (go_at_call 135; (with_reducible refine (impl_areWords.calls kj2 _ _ l0_3 true _ ?side1 ?side2 A25.out).mono ?_); (case side1 => exact cA (Kd.C_below HR0_3.out belA)); (case side2 => exact HC0_3.out); rintro e w' ⟨rfl, ⟨nd, rfl⟩⟩))
     go_ret
     exact ⟨xq1, belA⟩
   rw [if_neg c30] at H; have c30b0 : decide (400 < a0_4) = false := decide_eq_false c30; clear c30; replace H := Option.bind_eq_some_iff.mp H; obtain ⟨t272, A330, H⟩ := H; (try dsimp only at H); have A33 := ak A330; clear A330
   by_cases c34 : t272 = true
   · subst c34; have H1 : (if a0_0 = 11 then (some true) else (some (a0_4 == 0))) = some r := by rw [if_pos rfl] at H; exact H
     clear H; have H := H1; clear H1
     by_cases c35 : a0_0 = 11; rotate_left
     · rw [if_neg c35] at H; have c35b0 : (a0_0 == 11) = false := beq_eq_false_iff_ne.mpr c35; have c35b1 : (a0_0 != 11) = true := bne_iff_ne.mpr c35; obtain rfl := Option.some.inj H; have hnb38 := NB264_269.out; have hnc38 := NB269_264.out; obtain ⟨_, _, _, _, _, _, _, _, _, _⟩ := cel5 BK264; go_wp2_with (first | ((with_reducible refine gate_callee (f := 135) rfl ?_); refine goB 35 Try.func135 #[.slice A0_2 l0_2.length c0_2] rfl ?_; (with_reducible refine (impl_areWords.calls kj2 _ _ l0_2 true _ ?side1 ?side2 A23.out).mono ?_); (case side1 => exact cA (Kd.C_below HR0_2.out HB.out)); (case side2 => exact HC0_2.out); rintro e w' ⟨rfl, ⟨nd, rfl⟩⟩; refine ⟨_, rfl, ?_⟩) | (go_at_call 135; (with_reducible refine (impl_areWords.calls kj2 _ _ l0_3 true _ ?side1 ?side2 A25.out).mono ?_); (case side1 => exact cA (Kd.C_below HR0_3.out belA)); (case side2 => exact HC0_3.out); rintro e w' ⟨rfl, ⟨nd, rfl⟩⟩) | ((with_reducible refine gate_callee (f := 136) rfl ?_); refine goB 55 Try.func136 #[.int .i64 a0_0] rfl ?_; (with_reducible refine (impl_usesB.calls a0_0 true _ A33.out).mono ?_); rintro e w' ⟨rfl, ⟨nd, rfl⟩⟩; refine ⟨_, rfl, ?_⟩))
       go_ret
       exact ⟨xq1, belA⟩
     rw [if_pos c35] at H; have c35b0 : (a0_0 == 11) = true := beq_iff_eq.mpr c35; have c35b1 : (a0_0 != 11) = false := bne_eq_false_iff_eq.mpr c35; clear c35; obtain rfl := Option.some.inj H; have hnb36 := NB264_269.out; have hnc36 := NB269_264.out; obtain ⟨_, _, _, _, _, _, _, _, _, _⟩ := cel5 BK264; go_wp2_with (first | ((with_reducible refine gate_callee (f := 135) rfl ?_); refine goB 35 Try.func135 #[.slice A0_2 l0_2.length c0_2] rfl ?_; (with_reducible refine (impl_areWords.calls kj2 _ _ l0_2 true _ ?side1 ?side2 A23.out).mono ?_); (case side1 => exact cA (Kd.C_below HR0_2.out HB.out)); (case side2 => exact HC0_2.out); rintro e w' ⟨rfl, ⟨nd, rfl⟩⟩; refine ⟨_, rfl, ?_⟩) | (go_at_call 135; (with_reducible refine (impl_areWords.calls kj2 _ _ l0_3 true _ ?side1 ?side2 A25.out).mono ?_); (case side1 => exact cA (Kd.C_below HR0_3.out belA)); (case side2 => exact HC0_3.out); rintro e w' ⟨rfl, ⟨nd, rfl⟩⟩) | ((with_reducible refine gate_callee (f := 136) rfl ?_); refine goB 55 Try.func136 #[.int .i64 a0_0] rfl ?_; (with_reducible refine (impl_usesB.calls a0_0 true _ A33.out).mono ?_); rintro e w' ⟨rfl, ⟨nd, rfl⟩⟩; refine ⟨_, rfl, ?_⟩))
     go_ret
     exact ⟨xq1, belA⟩
   replace c34 := Bool.eq_false_iff.mpr c34; subst c34; have H1 : (if (l0_3.length : Int) = 0 then (if a0_0 = 11 then (some true) else (some (a0_4 == 0))) else (some false)) = some r := by rw [if_neg (show ¬ (false = true) by decide)] at H; exact H
   clear H; have H := H1; clear H1
   by_cases c40 : (l0_3.length : Int) = 0; rotate_left
   · rw [if_neg c40] at H; have c40b0 : ((l0_3.length : Int) == 0) = false := beq_eq_false_iff_ne.mpr c40; have c40b1 : ((l0_3.length : Int) != 0) = true := bne_iff_ne.mpr c40; have c40b2 : ¬ (l0_3 = []) := fun h_ => c40 (by rw [h_]; rfl)
     obtain rfl := Option.some.inj H; have hnb46 := NB264_269.out; have hnc46 := NB269_264.out; obtain ⟨_, _, _, _, _, _, _, _, _, _⟩ := cel5 BK264; go_wp2_with (first | ((with_reducible refine gate_callee (f := 135) rfl ?_); refine goB 35 Try.func135 #[.slice A0_2 l0_2.length c0_2] rfl ?_; (with_reducible refine (impl_areWords.calls kj2 _ _ l0_2 true _ ?side1 ?side2 A23.out).mono ?_); (case side1 => exact cA (Kd.C_below HR0_2.out HB.out)); (case side2 => exact HC0_2.out); rintro e w' ⟨rfl, ⟨nd, rfl⟩⟩; refine ⟨_, rfl, ?_⟩) | (go_at_call 135; (with_reducible refine (impl_areWords.calls kj2 _ _ l0_3 true _ ?side1 ?side2 A25.out).mono ?_); (case side1 => exact cA (Kd.C_below HR0_3.out belA)); (case side2 => exact HC0_3.out); rintro e w' ⟨rfl, ⟨nd, rfl⟩⟩) | ((with_reducible refine gate_callee (f := 136) rfl ?_); refine goB 55 Try.func136 #[.int .i64 a0_0] rfl ?_; (with_reducible refine (impl_usesB.calls a0_0 false _ A33.out).mono ?_); rintro e w' ⟨rfl, ⟨nd, rfl⟩⟩; refine ⟨_, rfl, ?_⟩))
     go_ret
     exact ⟨xq1, belA⟩
   rw [if_pos c40] at H; have c40b0 : ((l0_3.length : Int) == 0) = true := beq_iff_eq.mpr c40; have c40b1 : ((l0_3.length : Int) != 0) = false := bne_eq_false_iff_eq.mpr c40; clear c40
   by_cases c41 : a0_0 = 11; rotate_left
   · rw [if_neg c41] at H; have c41b0 : (a0_0 == 11) = false := beq_eq_false_iff_ne.mpr c41; have c41b1 : (a0_0 != 11) = true := bne_iff_ne.mpr c41; obtain rfl := Option.some.inj H; have hnb44 := NB264_269.out; have hnc44 := NB269_264.out; obtain ⟨_, _, _, _, _, _, _, _, _, _⟩ := cel5 BK264; go_wp2_with (first | ((with_reducible refine gate_callee (f := 135) rfl ?_); refine goB 35 Try.func135 #[.slice A0_2 l0_2.length c0_2] rfl ?_; (with_reducible refine (impl_areWords.calls kj2 _ _ l0_2 true _ ?side1 ?side2 A23.out).mono ?_); (case side1 => exact cA (Kd.C_below HR0_2.out HB.out)); (case side2 => exact HC0_2.out); rintro e w' ⟨rfl, ⟨nd, rfl⟩⟩; refine ⟨_, rfl, ?_⟩) | (go_at_call 135; (with_reducible refine (impl_areWords.calls kj2 _ _ l0_3 true _ ?side1 ?side2 A25.out).mono ?_); (case side1 => exact cA (Kd.C_below HR0_3.out belA)); (case side2 => exact HC0_3.out); rintro e w' ⟨rfl, ⟨nd, rfl⟩⟩) | ((with_reducible refine gate_callee (f := 136) rfl ?_); refine goB 55 Try.func136 #[.int .i64 a0_0] rfl ?_; (with_reducible refine (impl_usesB.calls a0_0 false _ A33.out).mono ?_); rintro e w' ⟨rfl, ⟨nd, rfl⟩⟩; refine ⟨_, rfl, ?_⟩))
     go_ret
     exact ⟨xq1, belA⟩
   rw [if_pos c41] at H; have c41b0 : (a0_0 == 11) = true := beq_iff_eq.mpr c41; have c41b1 : (a0_0 != 11) = false := bne_eq_false_iff_eq.mpr c41; clear c41; obtain rfl := Option.some.inj H; have hnb42 := NB264_269.out; have hnc42 := NB269_264.out; obtain ⟨_, _, _, _, _, _, _, _, _, _⟩ := cel5 BK264; go_wp2_with (first | ((with_reducible refine gate_callee (f := 135) rfl ?_); refine goB 35 Try.func135 #[.slice A0_2 l0_2.length c0_2] rfl ?_; (with_reducible refine (impl_areWords.calls kj2 _ _ l0_2 true _ ?side1 ?side2 A23.out).mono ?_); (case side1 => exact cA (Kd.C_below HR0_2.out HB.out)); (case side2 => exact HC0_2.out); rintro e w' ⟨rfl, ⟨nd, rfl⟩⟩; refine ⟨_, rfl, ?_⟩) | (go_at_call 135; (with_reducible refine (impl_areWords.calls kj2 _ _ l0_3 true _ ?side1 ?side2 A25.out).mono ?_); (case side1 => exact cA (Kd.C_below HR0_3.out belA)); (case side2 => exact HC0_3.out); rintro e w' ⟨rfl, ⟨nd, rfl⟩⟩) | ((with_reducible refine gate_callee (f := 136) rfl ?_); refine goB 55 Try.func136 #[.int .i64 a0_0] rfl ?_; (with_reducible refine (impl_usesB.calls a0_0 false _ A33.out).mono ?_); rintro e w' ⟨rfl, ⟨nd, rfl⟩⟩; refine ⟨_, rfl, ?_⟩))
   go_ret
   exact ⟨xq1, belA⟩

mutual
def impl_putNumber.j0 : Nat → Int → Option (List Int)
 | 0, _ => none
 | k + 1, x3 => impl_putNumber.l0 k x3 (([] : List Int))
def impl_putNumber.l0 : Nat → Int → List Int → Option (List Int)
 | 0, _, _ => none
 | k + 1, x3, x4 => if x3 ≥ 128 then (if x4.length < 140737488355328 then (impl_putNumber.l0 k (wrap64 (Int.tdiv x3 128)) (x4 ++ [(wrap64 ((Int.tmod x3 128) + 128)) % 256])) else (none)) else (if x4.length < 140737488355328 then (some (x4 ++ [(x3) % 256])) else (none))
end
def impl_putNumber.f (k : Nat) (a0 : Int) : Option (List Int) := if a0 < 0 then (impl_putNumber.j0 k (wrap64 ((wrap64 ((-2) * a0)) - 1))) else (impl_putNumber.j0 k (wrap64 (2 * a0)))
theorem impl_putNumber.mono_l : ∀ k, (∀ y0, LeO (impl_putNumber.j0 k y0) (impl_putNumber.j0 (k + 1) y0)) ∧ (∀ y0 y1, LeO (impl_putNumber.l0 k y0 y1) (impl_putNumber.l0 (k + 1) y0 y1))
 | 0 => ⟨fun _ r h => by simp [impl_putNumber.j0] at h, fun _ _ r h => by simp [impl_putNumber.l0] at h⟩
 | k + 1 => by
  obtain ⟨ih0, ih1⟩ := impl_putNumber.mono_l k; refine ⟨?_, ?_⟩
  · intro y0; unfold impl_putNumber.j0; exact xq30
  · intro y0 y1; unfold impl_putNumber.l0; exact xq30
theorem impl_putNumber.mono : ∀ a0 k, LeO (impl_putNumber.f k a0) (impl_putNumber.f (k + 1) a0) := by
 intro a0 k; obtain ⟨ih0, ih1⟩ := impl_putNumber.mono_l k
 unfold impl_putNumber.f
 exact xq30
theorem impl_putNumber.calls (k : Nat) (a0 : Int) (r : List Int) (w : World) (h : impl_putNumber.f k a0 = some r) :
 Calls Try.prog 137 #[.int .i64 a0] w fun e w' => ∃ v0_ : Value, e = .returned (v0_) ∧ Kd.R (Kd.int .u8) 5 w' w.heap.size (fun _ => True) v0_ r ∧ Below w.heap.size w w' := by
 have HB := ak (Below.refl w.heap.size w); have H : (if a0 < 0 then (impl_putNumber.j0 k (wrap64 ((wrap64 ((-2) * a0)) - 1))) else (impl_putNumber.j0 k (wrap64 (2 * a0)))) = some r := h; clear h; have HC2 := ak H; clear H; go_enter Try.func137, Try.ntmps137
 go_upto_if 8 with (fail)
 go_cut [3] (fun v3 wc => ∃ (kq : Nat) (x3_1 : Int), v3 = .int .i64 x3_1 ∧ Aside0 (impl_putNumber.j0 kq x3_1 = some r) ∧ Aside0 (kq ≤ k) ∧ Aside0 (Below w.heap.size w wc))
 case first =>
  have H := HC2.out; clear HC2
  by_cases c3 : a0 < 0; rotate_left
  · rw [if_neg c3] at H; have c3b0 := decide_eq_false c3; clear c3; (first | rw [c3b0] | (simp only [i64_w, i32_w]; rw [c3b0]) | skip)
    have H' := ak H; clear H; go_wp2
    go_meet
    case rel => exact ⟨_, (wrap64 (2 * a0)), eqA, H', ⟨xq7⟩, ⟨belA⟩⟩
  rw [if_pos c3] at H; have c3b0 := decide_eq_true c3; clear c3; (first | rw [c3b0] | (simp only [i64_w, i32_w]; rw [c3b0]) | skip)
  have H' := ak H; clear H; go_wp2
  go_meet
  case rel => exact ⟨_, (wrap64 ((wrap64 ((-2) * a0)) - 1)), eqA, H', ⟨xq7⟩, ⟨belA⟩⟩
 case rest =>
  clear HC2; obtain ⟨kq, x3_1, rfl, HA, HJ1, HB⟩ := hcut
  cases kq with
  | zero => exact absurd HA.out (by simp [impl_putNumber.j0])
  | succ kj1 =>
   have H := HA.out; clear HA; simp only [impl_putNumber.j0] at H; obtain ⟨y273, hyq⟩ : ∃ y_ : List Int, y_ = (([] : List Int)) := ⟨_, rfl⟩; replace H : (impl_putNumber.l0 kj1 x3_1 y273) = some r := by first | (rw [hyq]; with_reducible exact H) | (have H2_ := (Option.bind_some _ _).symm.trans H; rw [hyq]; with_reducible exact H2_) | (have H2_ := (Option.bind_some _ _).symm.trans H; with_reducible exact H2_) | with_reducible exact H | (rw [hyq]; exact H) | exact H
   have Ny273 := ak hyq; clear hyq; have H' := ak H; clear H; go_wp2_with (first | ((with_reducible refine gate_dst (N := 12) rfl ?_); refine Kd.R_lit (Kd.int .u8) _ 5 ?hg (N := 12) ?hd (xs := ([] : List Int)) (inner := []) (ok := fun _ => True) (okp := fun _ => True) ?hr ?hp (fun _ hk => hk) trivial (Below.refl _ _) (Nat.le_refl _) (by simp) ?_; (case hd => rfl); (case hg => rfl); (case hr => exact xq4); (case hp => exact (Reps.none _ _)); intro v274 w4 ho5 hb hg_ hnew_; clear hg_ hnew_; (first | rw [← Ny273.out] at ho5 | (simp only [Int.reduceToNat] at ho5; rw [← Ny273.out] at ho5)); have HO275 := rL ho5; replace HB := bS hb; clear hb ho5))
   go_loopg [3, 4] kj1 (fun kq v3 v4 w' => ∃ (x3_2 : Int) (x4_2 : List Int), v3 = .int .i64 x3_2 ∧ Aside0 (impl_putNumber.l0 kq x3_2 x4_2 = some r) ∧ Aside0 (kq ≤ kj1) ∧ Aside0 (Kd.R (Kd.int .u8) 5 w' w.heap.size (fun _ => True) v4 x4_2) ∧ Aside0 (Below w.heap.size w w'))
   case atStart => exact ⟨(x3_1), (y273), eqA, H', ⟨Nat.le_refl _⟩, ⟨rA HO275⟩, ⟨belA⟩⟩
   case round =>
    clear H'; obtain ⟨x3_2, x4_2, rfl, HA, HK2, HO_4, HB⟩ := hrel
    cases gk with
    | zero => exact absurd HA.out (by simp [impl_putNumber.l0])
    | succ k2 =>
     have H := HA.out; clear HA; simp only [impl_putNumber.l0] at H
     by_cases c6 : x3_2 ≥ 128; rotate_left
     · rw [if_neg c6] at H; have c6b0 : decide (128 ≤ x3_2) = false := decide_eq_false c6; clear c6
       by_cases c9 : x4_2.length < 140737488355328; rotate_left
       · rw [if_neg c9] at H; exact absurd H (by simp)
       rw [if_pos c9] at H; have LMc9 := ak c9; clear c9; obtain ⟨y279, hyq⟩ : ∃ y_ : List Int, y_ = (x4_2 ++ [(x3_2) % 256]) := ⟨_, rfl⟩; replace H : (some y279) = some r := by first | (rw [hyq]; with_reducible exact H) | (have H2_ := (Option.bind_some _ _).symm.trans H; rw [hyq]; with_reducible exact H2_) | (have H2_ := (Option.bind_some _ _).symm.trans H; with_reducible exact H2_) | with_reducible exact H | (rw [hyq]; exact H) | exact H
       have Ny279 := ak hyq; clear hyq; obtain rfl := Option.some.inj H; go_wp2_with (first | ((with_reducible refine gate_builtin (b := .append) (xs := #[.tmp 24, .tmp 27]) rfl ?_); at_builtin; refine Kd.R_append (Kd.int .u8) (w0 := w) w.heap.size rfl (.tmp 24) (.tmp 27) 22 5 (.int .u8 0) 1 rfl Try.underlying22 info5 rfl (by decide) (by omega) u4 x4_2 ((x3_2) % 256) [.int .u8 ((x3_2) % 256)] (fun _ => True) (fun _ => False) rfl rfl ?aP (fun _ hk => hk.elim) ?aF ?aO ?aB ?aS ?aL ?_; (case aP => exact rfl); (case aB => exact belA); (case aF => exact (fun _ _ => trivial)); (case aO => exact (rF HO_4)); (case aS => exact (below_size belA)); (case aL => have := LMc9.out; omega); intro v280 w10 ho hb hg hat; rw [← Ny279.out] at ho; have HO281 := ak ho; replace HB := ak hb; clear HO_4; clear ho hb hg hat))
       go_ret
       exact ⟨_, xq1, by (with_reducible repeat (first | apply Kd.R_alloc | apply Kd.R_drewN | apply Kd.R_drew)); exact HO281.out, belA⟩
     rw [if_pos c6] at H; have c6b0 : decide (128 ≤ x3_2) = true := decide_eq_true c6; clear c6
     by_cases c7 : x4_2.length < 140737488355328; rotate_left
     · rw [if_neg c7] at H; exact absurd H (by simp)
     rw [if_pos c7] at H; have LMc7 := ak c7; clear c7; obtain ⟨y276, hyq⟩ : ∃ y_ : List Int, y_ = (x4_2 ++ [(wrap64 ((Int.tmod x3_2 128) + 128)) % 256]) := ⟨_, rfl⟩; replace H : (impl_putNumber.l0 k2 (wrap64 (Int.tdiv x3_2 128)) y276) = some r := by first | (rw [hyq]; with_reducible exact H) | (have H2_ := (Option.bind_some _ _).symm.trans H; rw [hyq]; with_reducible exact H2_) | (have H2_ := (Option.bind_some _ _).symm.trans H; with_reducible exact H2_) | with_reducible exact H | (rw [hyq]; exact H) | exact H
     have Ny276 := ak hyq; clear hyq; have H' := ak H; clear H; go_wp2_with (first | ((with_reducible refine gate_builtin (b := .append) (xs := #[.tmp 15, .tmp 20]) rfl ?_); at_builtin; refine Kd.R_append (Kd.int .u8) (w0 := w) w.heap.size rfl (.tmp 15) (.tmp 20) 22 5 (.int .u8 0) 1 rfl Try.underlying22 info5 rfl (by decide) (by omega) u4 x4_2 ((wrap64 ((Int.tmod x3_2 128) + 128)) % 256) [.int .u8 ((wrap64 ((Int.tmod x3_2 128) + 128)) % 256)] (fun _ => True) (fun _ => False) rfl rfl ?aP (fun _ hk => hk.elim) ?aF ?aO ?aB ?aS ?aL ?_; (case aP => exact rfl); (case aB => exact belA); (case aF => exact (fun _ _ => trivial)); (case aO => exact (rF HO_4)); (case aS => exact (below_size belA)); (case aL => have := LMc7.out; omega); intro v277 w8 ho hb hg hat; rw [← Ny276.out] at ho; have HO278 := ak ho; replace HB := ak hb; clear HO_4; clear ho hb hg hat))
     go_roundg k2
     case measure => have := HJ1.out; have := HK2.out; omega
     case rel => exact ⟨(wrap64 (Int.tdiv x3_2 128)), (y276), eqA, H', ⟨by have := HJ1.out; have := HK2.out; omega⟩, ⟨rA HO278⟩, ⟨belA⟩⟩

end Go.Proofs.Ytbojabmpcfclhaa.PFnExactPackJobs

-- Written by a program of this session (the print of the kit with contracts of this session's own added)
import Derived.Test.YtogdhclomgafdaaZFJBx11
namespace Go.Proofs.Ytogdhclomgafdaa.PFnJobBytes
open Go.RowKit Go.Proofs.YtogdhclomgafdaaW.PrintWords Go.Proofs.YtogdhclomgafdaaW.PrintLast Go.Proofs.YtogdhclomgafdaaW.PrintMore Go.Proofs.YtogdhclomgafdaaW.PrintPack
set_option linter.unusedVariables false
set_option linter.unusedSimpArgs false

def impl_isJob.j0 : Nat → Bool → Int → Int → List Int → List Int → Int → Option (Bool)
 | 0, _, _, _, _, _, _ => none
 | k + 1, x32, x591000, x591001, x591002, x591003, x591004 => if x32 = true then (some false) else ((impl_areWords.f k x591002).bind fun t596 => (if t596 = true then ((impl_areWords.f k x591003).bind fun t597 => (if t597 = true then (if x591004 < 0 then (some false) else (if x591004 > 400 then (some false) else ((impl_usesB.f x591000).bind fun t598 => (if t598 = true then (if x591000 = 11 then (some true) else (some (x591004 == 0))) else (if (x591003.length : Int) = 0 then (if x591000 = 11 then (some true) else (some (x591004 == 0))) else (some false)))))) else (some false))) else (some false)))
def impl_isJob.f (k : Nat) (a0_0 : Int) (a0_1 : Int) (l0_2 : List Int) (l0_3 : List Int) (a0_4 : Int) : Option (Bool) := (impl_fieldOf.f a0_1).bind fun bt591 => (if bt591.2.2.2 = true then (if a0_0 < 1 then (impl_isJob.j0 k true a0_0 a0_1 l0_2 l0_3 a0_4) else (if a0_0 > 11 then (impl_isJob.j0 k true a0_0 a0_1 l0_2 l0_3 a0_4) else (if a0_0 = 6 then (impl_isJob.j0 k (a0_1 != 0) a0_0 a0_1 l0_2 l0_3 a0_4) else (impl_isJob.j0 k false a0_0 a0_1 l0_2 l0_3 a0_4)))) else (impl_isJob.j0 k true a0_0 a0_1 l0_2 l0_3 a0_4))
theorem impl_isJob.mono_l : ∀ k, (∀ y0 y1 y2 y3 y4 y5, LeO (impl_isJob.j0 k y0 y1 y2 y3 y4 y5) (impl_isJob.j0 (k + 1) y0 y1 y2 y3 y4 y5))
 | 0 => fun _ _ _ _ _ _ r h => by simp [impl_isJob.j0] at h
 | k + 1 => by
  have ih0 := impl_isJob.mono_l k
  · intro y0 y1 y2 y3 y4 y5; unfold impl_isJob.j0; exact xq78
theorem impl_isJob.mono : ∀ a0 a1 a2 a3 a4 k, LeO (impl_isJob.f k a0 a1 a2 a3 a4) (impl_isJob.f (k + 1) a0 a1 a2 a3 a4) := by
 intro a0 a1 a2 a3 a4 k; have ih0 := impl_isJob.mono_l k
 unfold impl_isJob.f
 exact xq78
set_option maxHeartbeats 8000000 in
set_option maxRecDepth 100000 in
theorem impl_isJob.calls (k : Nat) (a0_0 : Int) (a0_1 : Int) (A0_2 : Option Addr) (c0_2 : Nat) (l0_2 : List Int) (A0_3 : Option Addr) (c0_3 : Nat) (l0_3 : List Int) (a0_4 : Int) (r : Bool) (w : World) (hr0_2 : Kd.C (Kd.int .i64) w A0_2 l0_2.length l0_2) (hc0_2 : l0_2.length ≤ c0_2) (hr0_3 : Kd.C (Kd.int .i64) w A0_3 l0_3.length l0_3) (hc0_3 : l0_3.length ≤ c0_3) (h : impl_isJob.f k a0_0 a0_1 l0_2 l0_3 a0_4 = some r) :
 Calls Try.prog 86 #[.agg #[.int .i64 a0_0, .int .i64 a0_1, .slice A0_2 l0_2.length c0_2, .slice A0_3 l0_3.length c0_3, .int .i64 a0_4]] w fun e w' => e = .returned (.bool r) ∧ Below w.heap.size w w' := by
 have hu49 := Try.underlying49; have hu126 := Try.underlying126; have HR0_2 := ak hr0_2; have HC0_2 := ak hc0_2; clear hr0_2 hc0_2; have HR0_3 := ak hr0_3; have HC0_3 := ak hc0_3; clear hr0_3 hc0_3; have HB := ak (Below.refl w.heap.size w); have H : ((impl_fieldOf.f a0_1).bind fun bt591 => (if bt591.2.2.2 = true then (if a0_0 < 1 then (impl_isJob.j0 k true a0_0 a0_1 l0_2 l0_3 a0_4) else (if a0_0 > 11 then (impl_isJob.j0 k true a0_0 a0_1 l0_2 l0_3 a0_4) else (if a0_0 = 6 then (impl_isJob.j0 k (a0_1 != 0) a0_0 a0_1 l0_2 l0_3 a0_4) else (impl_isJob.j0 k false a0_0 a0_1 l0_2 l0_3 a0_4)))) else (impl_isJob.j0 k true a0_0 a0_1 l0_2 l0_3 a0_4))) = some r := h; clear h; replace H := Option.bind_eq_some_iff.mp H; obtain ⟨⟨t591, t592, t593, t594⟩, A20, H⟩ := H; (try dsimp only at H); have A2 := ak A20; clear A20; have HC3 := ak H; clear H; go_enter Try.func86, Try.ntmps86
 go_upto_region 2 with (first | ((with_reducible refine gate_dst (N := 1) rfl ?_); (try (refine gate_guard (by rfl) ?_; dsimp only)); refine boxA 1 #[.int .i64 a0_0, .int .i64 a0_1, .slice A0_2 l0_2.length c0_2, .slice A0_3 l0_3.length c0_3, .int .i64 a0_4] 49 ?_; intro gb590 hg w4 hbox hb; have BK590 := ak hbox; have GW590 := leA (w := w) hg; have GE590 := leA (w := w) hg; replace HB := bS hb; clear hb hbox hg; obtain ⟨_, _, _, _, _, _, _, _, _, _⟩ := cel5 BK590) | ((with_reducible refine gate_callee (f := 103) rfl ?_); refine goB 8 Try.func103 #[.int .i64 a0_1] rfl ?_; (with_reducible refine (impl_fieldOf.calls a0_1 t591 t592 t593 t594 _ A2.out).mono ?_); rintro e w6 ⟨rfl, hb⟩; refine ⟨_, rfl, ?_⟩; replace BK590 := bB BK590 hb; replace HB := bS hb; (try clear hb)) | ((with_reducible refine gate_dst (N := 3) rfl ?_); (try (refine gate_guard (by rfl) ?_; dsimp only)); refine boxA 3 #[.int .i64 0, .int .i64 0, .int .i64 0] 126 ?_; intro gb595 hg w7 hbox hb; have BK595 := ak hbox; have GW595 := leA (w := w) hg; have GE595 := leA (w := w) hg; have NB590_595 := neL hg BK590; have NB595_590 := neG hg BK590; replace BK590 := bB BK590 hb; replace HB := bS hb; clear hb hbox hg; have hnb8 := NB595_590.out; have hnc8 := NB590_595.out; obtain ⟨_, _, _, _, _, _⟩ := cel3 BK595))
 (try simp only [Act.put, sa, sb, sc])
 go_cut [32] (fun v32 wc => ∃ (kq : Nat) (x32_2 : Bool), v32 = .bool x32_2 ∧ Aside0 (impl_isJob.j0 kq x32_2 a0_0 a0_1 l0_2 l0_3 a0_4 = some r) ∧ Aside0 (kq ≤ k) ∧ Aside0 (wc.heap[gb590]? = some (.cells #[.int .i64 a0_0, .int .i64 a0_1, (.slice A0_2 l0_2.length c0_2), (.slice A0_3 l0_3.length c0_3), .int .i64 a0_4] 49 (0, 0))) ∧ Aside0 (wc.heap[gb595]? = some (.cells #[.int .i64 t591, .int .i64 t592, .int .i64 t593] 126 (0, 0))) ∧ Aside0 (Below w.heap.size w wc))
 case first =>
  have H := HC3.out; clear HC3
  by_cases c10 : t594 = true; rotate_left
  · replace c10 := Bool.eq_false_iff.mpr c10; subst c10; have H1 : (impl_isJob.j0 k true a0_0 a0_1 l0_2 l0_3 a0_4) = some r := by rw [if_neg (show ¬ (false = true) by decide)] at H; exact H
    clear H; have H := H1; clear H1; have H' := ak H; clear H; go_wp2
    go_meet
    case rel => exact ⟨_, (true), eqA, H', ⟨xq12⟩, ⟨xq35⟩, ⟨xq36⟩, ⟨belA⟩⟩
  subst c10; have H1 : (if a0_0 < 1 then (impl_isJob.j0 k true a0_0 a0_1 l0_2 l0_3 a0_4) else (if a0_0 > 11 then (impl_isJob.j0 k true a0_0 a0_1 l0_2 l0_3 a0_4) else (if a0_0 = 6 then (impl_isJob.j0 k (a0_1 != 0) a0_0 a0_1 l0_2 l0_3 a0_4) else (impl_isJob.j0 k false a0_0 a0_1 l0_2 l0_3 a0_4)))) = some r := by rw [if_pos rfl] at H; exact H
  clear H; have H := H1; clear H1
  by_cases c11 : a0_0 < 1
  · rw [if_pos c11] at H; have c11b0 := decide_eq_true c11; clear c11; (first | rw [c11b0] | (simp only [i64_w, i32_w]; rw [c11b0]) | skip)
    have H' := ak H; clear H; have hnb12 := NB590_595.out; have hnc12 := NB595_590.out; obtain ⟨_, _, _, _, _, _, _, _, _, _⟩ := cel5 BK590; go_wp2
    go_meet
    case rel => exact ⟨_, (true), eqA, H', ⟨xq12⟩, ⟨xq35⟩, ⟨xq36⟩, ⟨belA⟩⟩
  rw [if_neg c11] at H; have c11b0 := decide_eq_false c11; clear c11; (first | rw [c11b0] | (simp only [i64_w, i32_w]; rw [c11b0]) | skip)
  by_cases c14 : a0_0 > 11
  · rw [if_pos c14] at H; have c14b0 : decide (11 < a0_0) = true := decide_eq_true c14; clear c14; have H' := ak H; clear H; have hnb15 := NB590_595.out; have hnc15 := NB595_590.out; obtain ⟨_, _, _, _, _, _, _, _, _, _⟩ := cel5 BK590; go_wp2
    go_meet
    case rel => exact ⟨_, (true), eqA, H', ⟨xq12⟩, ⟨xq35⟩, ⟨xq36⟩, ⟨belA⟩⟩
  rw [if_neg c14] at H; have c14b0 : decide (11 < a0_0) = false := decide_eq_false c14; clear c14
  by_cases c17 : a0_0 = 6; rotate_left
  · rw [if_neg c17] at H; have c17b0 : (a0_0 == 6) = false := beq_eq_false_iff_ne.mpr c17; have c17b1 : (a0_0 != 6) = true := bne_iff_ne.mpr c17; have H' := ak H; clear H; have hnb20 := NB590_595.out; have hnc20 := NB595_590.out; obtain ⟨_, _, _, _, _, _, _, _, _, _⟩ := cel5 BK590; go_wp2
    go_meet
    case rel => exact ⟨_, (false), eqA, H', ⟨xq12⟩, ⟨xq35⟩, ⟨xq36⟩, ⟨belA⟩⟩
  rw [if_pos c17] at H; have c17b0 : (a0_0 == 6) = true := beq_iff_eq.mpr c17; have c17b1 : (a0_0 != 6) = false := bne_eq_false_iff_eq.mpr c17; clear c17; have H' := ak H; clear H; have hnb18 := NB590_595.out; have hnc18 := NB595_590.out; obtain ⟨_, _, _, _, _, _, _, _, _, _⟩ := cel5 BK590; go_wp2
  go_meet
  case rel => exact ⟨_, ((a0_1 != 0)), eqA, H', ⟨xq12⟩, ⟨xq35⟩, ⟨xq36⟩, ⟨belA⟩⟩
 case rest =>
  clear HC3; obtain ⟨kq, x32_2, rfl, HA, HJ2, BK590, BK595, HB⟩ := hcut
  cases kq with
  | zero => exact absurd HA.out (by simp [impl_isJob.j0])
  | succ kj2 =>
   have H := HA.out; clear HA; simp only [impl_isJob.j0] at H
   by_cases c22 : x32_2 = true
   · subst c22; have H1 : (some false) = some r := by rw [if_pos rfl] at H; exact H
     clear H; have H := H1; clear H1; obtain rfl := Option.some.inj H; go_wp2
     go_ret
     exact ⟨xq6, belA⟩
   replace c22 := Bool.eq_false_iff.mpr c22; subst c22; have H1 : ((impl_areWords.f kj2 l0_2).bind fun t596 => (if t596 = true then ((impl_areWords.f kj2 l0_3).bind fun t597 => (if t597 = true then (if a0_4 < 0 then (some false) else (if a0_4 > 400 then (some false) else ((impl_usesB.f a0_0).bind fun t598 => (if t598 = true then (if a0_0 = 11 then (some true) else (some (a0_4 == 0))) else (if (l0_3.length : Int) = 0 then (if a0_0 = 11 then (some true) else (some (a0_4 == 0))) else (some false)))))) else (some false))) else (some false))) = some r := by rw [if_neg (show ¬ (false = true) by decide)] at H; exact H
   clear H; have H := H1; clear H1; replace H := Option.bind_eq_some_iff.mp H; obtain ⟨t596, A230, H⟩ := H; (try dsimp only at H); have A23 := ak A230; clear A230
   by_cases c24 : t596 = true; rotate_left
   · replace c24 := Bool.eq_false_iff.mpr c24; subst c24; have H1 : (some false) = some r := by rw [if_neg (show ¬ (false = true) by decide)] at H; exact H
     clear H; have H := H1; clear H1; obtain rfl := Option.some.inj H; have hnb50 := NB590_595.out; have hnc50 := NB595_590.out; obtain ⟨_, _, _, _, _, _, _, _, _, _⟩ := cel5 BK590; go_wp2_with (first | ((with_reducible refine gate_callee (f := 113) rfl ?_); refine goB 35 Try.func113 #[.slice A0_2 l0_2.length c0_2] rfl ?_; (with_reducible refine (impl_areWords.calls kj2 _ _ l0_2 false _ ?side1 ?side2 A23.out).mono ?_); (case side1 => exact cA (Kd.C_below HR0_2.out HB.out)); (case side2 => exact HC0_2.out); rintro e w' ⟨rfl, ⟨nd, rfl⟩⟩; refine ⟨_, rfl, ?_⟩))
     go_ret
     exact ⟨xq6, belA⟩
   subst c24; have H1 : ((impl_areWords.f kj2 l0_3).bind fun t597 => (if t597 = true then (if a0_4 < 0 then (some false) else (if a0_4 > 400 then (some false) else ((impl_usesB.f a0_0).bind fun t598 => (if t598 = true then (if a0_0 = 11 then (some true) else (some (a0_4 == 0))) else (if (l0_3.length : Int) = 0 then (if a0_0 = 11 then (some true) else (some (a0_4 == 0))) else (some false)))))) else (some false))) = some r := by rw [if_pos rfl] at H; exact H
   clear H; have H := H1; clear H1; replace H := Option.bind_eq_some_iff.mp H; obtain ⟨t597, A250, H⟩ := H; (try dsimp only at H); have A25 := ak A250; clear A250
   by_cases c26 : t597 = true; rotate_left
   · replace c26 := Bool.eq_false_iff.mpr c26; subst c26; have H1 : (some false) = some r := by rw [if_neg (show ¬ (false = true) by decide)] at H; exact H
     clear H; have H := H1; clear H1; obtain rfl := Option.some.inj H; have hnb48 := NB590_595.out; have hnc48 := NB595_590.out; obtain ⟨_, _, _, _, _, _, _, _, _, _⟩ := cel5 BK590; go_wp2_with (first | ((with_reducible refine gate_callee (f := 113) rfl ?_); refine goB 35 Try.func113 #[.slice A0_2 l0_2.length c0_2] rfl ?_; (with_reducible refine (impl_areWords.calls kj2 _ _ l0_2 true _ ?side1 ?side2 A23.out).mono ?_); (case side1 => exact cA (Kd.C_below HR0_2.out HB.out)); (case side2 => exact HC0_2.out); rintro e w' ⟨rfl, ⟨nd, rfl⟩⟩; refine ⟨_, rfl, ?_⟩) | (go_at_call 113; (with_reducible refine (impl_areWords.calls kj2 _ _ l0_3 false _ ?side1 ?side2 A25.out).mono ?_); (case side1 => exact cA (Kd.C_below HR0_3.out belA)); (case side2 => exact HC0_3.out); rintro e w' ⟨rfl, ⟨nd, rfl⟩⟩))
     go_ret
     exact ⟨xq6, belA⟩
   subst c26; have H1 : (if a0_4 < 0 then (some false) else (if a0_4 > 400 then (some false) else ((impl_usesB.f a0_0).bind fun t598 => (if t598 = true then (if a0_0 = 11 then (some true) else (some (a0_4 == 0))) else (if (l0_3.length : Int) = 0 then (if a0_0 = 11 then (some true) else (some (a0_4 == 0))) else (some false)))))) = some r := by rw [if_pos rfl] at H; exact H
   clear H; have H := H1; clear H1
   by_cases c27 : a0_4 < 0
   · rw [if_pos c27] at H; have c27b0 := decide_eq_true c27; clear c27; obtain rfl := Option.some.inj H; have hnb28 := NB590_595.out; have hnc28 := NB595_590.out; obtain ⟨_, _, _, _, _, _, _, _, _, _⟩ := cel5 BK590; go_wp2_with (first | ((with_reducible refine gate_callee (f := 113) rfl ?_); refine goB 35 Try.func113 #[.slice A0_2 l0_2.length c0_2] rfl ?_; (with_reducible refine (impl_areWords.calls kj2 _ _ l0_2 true _ ?side1 ?side2 A23.out).mono ?_); (case side1 => exact cA (Kd.C_below HR0_2.out HB.out)); (case side2 => exact HC0_2.out); rintro e w' ⟨rfl, ⟨nd, rfl⟩⟩; refine ⟨_, rfl, ?_⟩) | (go_at_call 113; (with_reducible refine (impl_areWords.calls kj2 _ _ l0_3 true _ ?side1 ?side2 A25.out).mono ?_); (case side1 => exact cA (Kd.C_below HR0_3.out belA)); (case side2 => exact HC0_3.out); rintro e w' ⟨rfl, ⟨nd, rfl⟩⟩))
     go_ret
     exact ⟨xq6, belA⟩
   rw [if_neg c27] at H; have c27b0 := decide_eq_false c27; clear c27
   by_cases c30 : a0_4 > 400
   · rw [if_pos c30] at H; have c30b0 : decide (400 < a0_4) = true := decide_eq_true c30; clear c30; obtain rfl := Option.some.inj H; have hnb31 := NB590_595.out; have hnc31 := NB595_590.out; obtain ⟨_, _, _, _, _, _, _, _, _, _⟩ := cel5 BK590; go_wp2_with (first | ((with_reducible refine gate_callee (f := 113) rfl ?_); refine goB 35 Try.func113 #[.slice A0_2 l0_2.length c0_2] rfl ?_; (with_reducible refine (impl_areWords.calls kj2 _ _ l0_2 true _ ?side1 ?side2 A23.out).mono ?_); (case side1 => exact cA (Kd.C_below HR0_2.out HB.out)); (case side2 => exact HC0_2.out); rintro e w' ⟨rfl, ⟨nd, rfl⟩⟩; refine ⟨_, rfl, ?_⟩) | (go_at_call 113; (with_reducible refine (impl_areWords.calls kj2 _ _ l0_3 true _ ?side1 ?side2 A25.out).mono ?_); (case side1 => exact cA (Kd.C_below HR0_3.out belA)); (case side2 => exact HC0_3.out); rintro e w' ⟨rfl, ⟨nd, rfl⟩⟩))
     go_ret
     exact ⟨xq6, belA⟩
   rw [if_neg c30] at H; have c30b0 : decide (400 < a0_4) = false := decide_eq_false c30; clear c30; replace H := Option.bind_eq_some_iff.mp H; obtain ⟨t598, A330, H⟩ := H; (try dsimp only at H); have A33 := ak A330; clear A330
   by_cases c34 : t598 = true
   · subst c34; have H1 : (if a0_0 = 11 then (some true) else (some (a0_4 == 0))) = some r := by rw [if_pos rfl] at H; exact H
     clear H; have H := H1; clear H1
     by_cases c35 : a0_0 = 11; rotate_left
     · rw [if_neg c35] at H; have c35b0 : (a0_0 == 11) = false := beq_eq_false_iff_ne.mpr c35; have c35b1 : (a0_0 != 11) = true := bne_iff_ne.mpr c35; obtain rfl := Option.some.inj H; have hnb38 := NB590_595.out; have hnc38 := NB595_590.out; obtain ⟨_, _, _, _, _, _, _, _, _, _⟩ := cel5 BK590; go_wp2_with (first | ((with_reducible refine gate_callee (f := 113) rfl ?_); refine goB 35 Try.func113 #[.slice A0_2 l0_2.length c0_2] rfl ?_; (with_reducible refine (impl_areWords.calls kj2 _ _ l0_2 true _ ?side1 ?side2 A23.out).mono ?_); (case side1 => exact cA (Kd.C_below HR0_2.out HB.out)); (case side2 => exact HC0_2.out); rintro e w' ⟨rfl, ⟨nd, rfl⟩⟩; refine ⟨_, rfl, ?_⟩) | (go_at_call 113; (with_reducible refine (impl_areWords.calls kj2 _ _ l0_3 true _ ?side1 ?side2 A25.out).mono ?_); (case side1 => exact cA (Kd.C_below HR0_3.out belA)); (case side2 => exact HC0_3.out); rintro e w' ⟨rfl, ⟨nd, rfl⟩⟩) | ((with_reducible refine gate_callee (f := 114) rfl ?_); refine goB 55 Try.func114 #[.int .i64 a0_0] rfl ?_; (with_reducible refine (impl_usesB.calls a0_0 true _ A33.out).mono ?_); rintro e w' ⟨rfl, ⟨nd, rfl⟩⟩; refine ⟨_, rfl, ?_⟩))
       go_ret
       exact ⟨xq6, belA⟩
     rw [if_pos c35] at H; have c35b0 : (a0_0 == 11) = true := beq_iff_eq.mpr c35; have c35b1 : (a0_0 != 11) = false := bne_eq_false_iff_eq.mpr c35; clear c35; obtain rfl := Option.some.inj H; have hnb36 := NB590_595.out; have hnc36 := NB595_590.out; obtain ⟨_, _, _, _, _, _, _, _, _, _⟩ := cel5 BK590; go_wp2_with (first | ((with_reducible refine gate_callee (f := 113) rfl ?_); refine goB 35 Try.func113 #[.slice A0_2 l0_2.length c0_2] rfl ?_; (with_reducible refine (impl_areWords.calls kj2 _ _ l0_2 true _ ?side1 ?side2 A23.out).mono ?_); (case side1 => exact cA (Kd.C_below HR0_2.out HB.out)); (case side2 => exact HC0_2.out); rintro e w' ⟨rfl, ⟨nd, rfl⟩⟩; refine ⟨_, rfl, ?_⟩) | (go_at_call 113; (with_reducible refine (impl_areWords.calls kj2 _ _ l0_3 true _ ?side1 ?side2 A25.out).mono ?_); (case side1 => exact cA (Kd.C_below HR0_3.out belA)); (case side2 => exact HC0_3.out); rintro e w' ⟨rfl, ⟨nd, rfl⟩⟩) | ((with_reducible refine gate_callee (f := 114) rfl ?_); refine goB 55 Try.func114 #[.int .i64 a0_0] rfl ?_; (with_reducible refine (impl_usesB.calls a0_0 true _ A33.out).mono ?_); rintro e w' ⟨rfl, ⟨nd, rfl⟩⟩; refine ⟨_, rfl, ?_⟩))
     go_ret
     exact ⟨xq6, belA⟩
   replace c34 := Bool.eq_false_iff.mpr c34; subst c34; have H1 : (if (l0_3.length : Int) = 0 then (if a0_0 = 11 then (some true) else (some (a0_4 == 0))) else (some false)) = some r := by rw [if_neg (show ¬ (false = true) by decide)] at H; exact H
   clear H; have H := H1; clear H1
   by_cases c40 : (l0_3.length : Int) = 0; rotate_left
   · rw [if_neg c40] at H; have c40b0 : ((l0_3.length : Int) == 0) = false := beq_eq_false_iff_ne.mpr c40; have c40b1 : ((l0_3.length : Int) != 0) = true := bne_iff_ne.mpr c40; have c40b2 : ¬ (l0_3 = []) := fun h_ => c40 (by rw [h_]; rfl)
     obtain rfl := Option.some.inj H; have hnb46 := NB590_595.out; have hnc46 := NB595_590.out; obtain ⟨_, _, _, _, _, _, _, _, _, _⟩ := cel5 BK590; go_wp2_with (first | ((with_reducible refine gate_callee (f := 113) rfl ?_); refine goB 35 Try.func113 #[.slice A0_2 l0_2.length c0_2] rfl ?_; (with_reducible refine (impl_areWords.calls kj2 _ _ l0_2 true _ ?side1 ?side2 A23.out).mono ?_); (case side1 => exact cA (Kd.C_below HR0_2.out HB.out)); (case side2 => exact HC0_2.out); rintro e w' ⟨rfl, ⟨nd, rfl⟩⟩; refine ⟨_, rfl, ?_⟩) | (go_at_call 113; (with_reducible refine (impl_areWords.calls kj2 _ _ l0_3 true _ ?side1 ?side2 A25.out).mono ?_); (case side1 => exact cA (Kd.C_below HR0_3.out belA)); (case side2 => exact HC0_3.out); rintro e w' ⟨rfl, ⟨nd, rfl⟩⟩) | ((with_reducible refine gate_callee (f := 114) rfl ?_); refine goB 55 Try.func114 #[.int .i64 a0_0] rfl ?_; (with_reducible refine (impl_usesB.calls a0_0 false _ A33.out).mono ?_); rintro e w' ⟨rfl, ⟨nd, rfl⟩⟩; refine ⟨_, rfl, ?_⟩))
     go_ret
     exact ⟨xq6, belA⟩
   rw [if_pos c40] at H; have c40b0 : ((l0_3.length : Int) == 0) = true := beq_iff_eq.mpr c40; have c40b1 : ((l0_3.length : Int) != 0) = false := bne_eq_false_iff_eq.mpr c40; clear c40
   by_cases c41 : a0_0 = 11; rotate_left
   · rw [if_neg c41] at H; have c41b0 : (a0_0 == 11) = false := beq_eq_false_iff_ne.mpr c41; have c41b1 : (a0_0 != 11) = true := bne_iff_ne.mpr c41; obtain rfl := Option.some.inj H; have hnb44 := NB590_595.out; have hnc44 := NB595_590.out; obtain ⟨_, _, _, _, _, _, _, _, _, _⟩ := cel5 BK590; go_wp2_with (first | ((with_reducible refine gate_callee (f := 113) rfl ?_); refine goB 35 Try.func113 #[.slice A0_2 l0_2.length c0_2] rfl ?_; (with_reducible refine (impl_areWords.calls kj2 _ _ l0_2 true _ ?side1 ?side2 A23.out).mono ?_); (case side1 => exact cA (Kd.C_below HR0_2.out HB.out)); (case side2 => exact HC0_2.out); rintro e w' ⟨rfl, ⟨nd, rfl⟩⟩; refine ⟨_, rfl, ?_⟩) | (go_at_call 113; (with_reducible refine (impl_areWords.calls kj2 _ _ l0_3 true _ ?side1 ?side2 A25.out).mono ?_); (case side1 => exact cA (Kd.C_below HR0_3.out belA)); (case side2 => exact HC0_3.out); rintro e w' ⟨rfl, ⟨nd, rfl⟩⟩) | ((with_reducible refine gate_callee (f := 114) rfl ?_); refine goB 55 Try.func114 #[.int .i64 a0_0] rfl ?_; (with_reducible refine (impl_usesB.calls a0_0 false _ A33.out).mono ?_); rintro e w' ⟨rfl, ⟨nd, rfl⟩⟩; refine ⟨_, rfl, ?_⟩))
     go_ret
     exact ⟨xq6, belA⟩
   rw [if_pos c41] at H; have c41b0 : (a0_0 == 11) = true := beq_iff_eq.mpr c41; have c41b1 : (a0_0 != 11) = false := bne_eq_false_iff_eq.mpr c41; clear c41; obtain rfl := Option.some.inj H; have hnb42 := NB590_595.out; have hnc42 := NB595_590.out; obtain ⟨_, _, _, _, _, _, _, _, _, _⟩ := cel5 BK590; go_wp2_with (first | ((with_reducible refine gate_callee (f := 113) rfl ?_); refine goB 35 Try.func113 #[.slice A0_2 l0_2.length c0_2] rfl ?_; (with_reducible refine (impl_areWords.calls kj2 _ _ l0_2 true _ ?side1 ?side2 A23.out).mono ?_); (case side1 => exact cA (Kd.C_below HR0_2.out HB.out)); (case side2 => exact HC0_2.out); rintro e w' ⟨rfl, ⟨nd, rfl⟩⟩; refine ⟨_, rfl, ?_⟩) | (go_at_call 113; (with_reducible refine (impl_areWords.calls kj2 _ _ l0_3 true _ ?side1 ?side2 A25.out).mono ?_); (case side1 => exact cA (Kd.C_below HR0_3.out belA)); (case side2 => exact HC0_3.out); rintro e w' ⟨rfl, ⟨nd, rfl⟩⟩) | ((with_reducible refine gate_callee (f := 114) rfl ?_); refine goB 55 Try.func114 #[.int .i64 a0_0] rfl ?_; (with_reducible refine (impl_usesB.calls a0_0 false _ A33.out).mono ?_); rintro e w' ⟨rfl, ⟨nd, rfl⟩⟩; refine ⟨_, rfl, ?_⟩))
   go_ret
   exact ⟨xq6, belA⟩

end Go.Proofs.Ytogdhclomgafdaa.PFnJobBytes

-- Written by a program of this session (the print of the kit with contracts of this session's own added)
import Derived.Test.YtbojabmpcfclhaaZFPTx4
set_option maxHeartbeats 8000000
set_option maxRecDepth 100000
namespace Go.Proofs.Ytbojabmpcfclhaa.PFnPlanTurned
open Go.RowKit Go.Proofs.YtbojabmpcfclhaaW.PrintWords Go.Proofs.YtbojabmpcfclhaaW.PrintLast Go.Proofs.YtbojabmpcfclhaaW.PrintMore Go.Proofs.YtbojabmpcfclhaaW.PrintPack Go.Proofs.YtbojabmpcfclhaaW.PrintPack
attribute [local go_sem] max2_int min2_int max_two min_two max_three min_three max_four min_four   -- for this text's walks alone
set_option linter.unusedVariables false
set_option linter.unusedSimpArgs false

def spec_l01In.f (a0 : Int) (a1 : Int) (a2 : Int) : Option (Bool) := if a1 ≤ a0 then (some (decide (a0 ≤ a2))) else (some false)
theorem spec_l01In.calls (a0 : Int) (a1 : Int) (a2 : Int) (r : Bool) (w : World) (h : spec_l01In.f a0 a1 a2 = some r) :
 Calls Try.prog 60 #[.int .i64 a0, .int .i64 a1, .int .i64 a2] w fun e w' => e = .returned (.bool r) ∧ Drawn0 w w' := by
 have H : (if a1 ≤ a0 then (some (decide (a0 ≤ a2))) else (some false)) = some r := h; clear h
 by_cases c4 : a1 ≤ a0
 · rw [if_pos c4] at H; have N0 := decide_eq_true c4; clear c4; obtain rfl := Option.some.inj H; go_enter Try.func60, Try.ntmps60
   go_wp2
   go_ret
   exact ⟨xq7, xq3⟩
 rw [if_neg c4] at H; have N0 := decide_eq_false c4; clear c4; obtain rfl := Option.some.inj H; go_enter Try.func60, Try.ntmps60
 go_wp2
 go_ret
 exact ⟨xq7, xq3⟩

def spec_l01DrawElement.f (s0_0 : List Int) (s0_1 : Int) (s0_2 : Int) (a1 : Int) : Option (Int × Int × Int) := (spec_Modulus.f a1).bind fun t202 => (if t202 = 0 then ((spec_l01Below.f s0_0 s0_1 s0_2 50).bind fun bt203 => (some (bt203.1, bt203.2.1, bt203.2.2))) else ((spec_l01Below.f s0_0 s0_1 s0_2 6).bind fun bt206 => (if bt206.1 = 0 then ((spec_l01Below.f s0_0 bt206.2.1 bt206.2.2 3).bind fun bt209 => (some (Int.tmod bt209.1 t202, bt209.2.1, bt209.2.2))) else (if bt206.1 = 1 then ((spec_l01Below.f s0_0 bt206.2.1 bt206.2.2 3).bind fun bt212 => (some (wrap64 ((wrap64 (t202 - 1)) - bt212.1), bt212.2.1, bt212.2.2))) else (if bt206.1 = 2 then ((spec_l01Below.f s0_0 bt206.2.1 bt206.2.2 16777216).bind fun bt215 => ((spec_l01Below.f s0_0 bt215.2.1 bt215.2.2 256).bind fun bt218 => (some (Int.tmod (wrap64 ((wrap64 (bt215.1 * 61)) + bt218.1)) t202, bt218.2.1, bt218.2.2)))) else ((spec_l01Below.f s0_0 bt206.2.1 bt206.2.2 30).bind fun bt221 => (some (Int.tmod bt221.1 t202, bt221.2.1, bt221.2.2))))))))
theorem spec_l01DrawElement.calls (g : Nat) (s0_0 : List Int) (s0_1 : Int) (s0_2 : Int) (a1 : Int) (r1 : Int) (r2 : Int) (r3 : Int) (w0 w : World) (hI : IsS129 w0 w g s0_0 s0_1 s0_2) (hB : Below w0.heap.size w0 w) (h : spec_l01DrawElement.f s0_0 s0_1 s0_2 a1 = some (r1, r2, r3)) :
 Calls Try.prog 115 #[.pointer (some ⟨g, 0, none⟩), .int .i64 a1] w fun e w' => e = .returned (.int .i64 r1) ∧ IsS129 w0 w' g s0_0 r2 r3 ∧ Below w0.heap.size w0 w' ∧ KeepBut w w' g none := by
 have O0 := ak hI; have HK := ak (KeepBut.refl w g none); have HL := ak hB.size; clear hI; have w3 := ak hB.size; have HB := ak hB; clear hB; have H : ((spec_Modulus.f a1).bind fun z0 => (if z0 = 0 then ((spec_l01Below.f s0_0 s0_1 s0_2 50).bind fun U0 => (some (U0.1, U0.2.1, U0.2.2))) else ((spec_l01Below.f s0_0 s0_1 s0_2 6).bind fun U1 => (if U1.1 = 0 then ((spec_l01Below.f s0_0 U1.2.1 U1.2.2 3).bind fun U2 => (some (Int.tmod U2.1 z0, U2.2.1, U2.2.2))) else (if U1.1 = 1 then ((spec_l01Below.f s0_0 U1.2.1 U1.2.2 3).bind fun U3 => (some (wrap64 ((wrap64 (z0 - 1)) - U3.1), U3.2.1, U3.2.2))) else (if U1.1 = 2 then ((spec_l01Below.f s0_0 U1.2.1 U1.2.2 16777216).bind fun U4 => ((spec_l01Below.f s0_0 U4.2.1 U4.2.2 256).bind fun U5 => (some (Int.tmod (wrap64 ((wrap64 (U4.1 * 61)) + U5.1)) z0, U5.2.1, U5.2.2)))) else ((spec_l01Below.f s0_0 U1.2.1 U1.2.2 30).bind fun U6 => (some (Int.tmod U6.1 z0, U6.2.1, U6.2.2))))))))) = some (r1, r2, r3) := h; clear h; replace H := Option.bind_eq_some_iff.mp H; obtain ⟨z0, Z0, H⟩ := H; (try dsimp only at H); have A3 := ak Z0; clear Z0
 by_cases c4 : z0 = 0
 · rw [if_pos c4] at H; have N0 : (z0 == 0) = true := beq_iff_eq.mpr c4; have N1 : (z0 != 0) = false := bne_eq_false_iff_eq.mpr c4; clear c4; replace H := Option.bind_eq_some_iff.mp H; obtain ⟨⟨z1, z2, z3⟩, Z1, H⟩ := H; (try dsimp only at H); have A5 := ak Z1; clear Z1; simp only [Option.some.injEq, Prod.mk.injEq] at H; obtain ⟨rfl, rfl, rfl⟩ := H; go_enter Try.func115, Try.ntmps115
   go_wp2_with (first | ((with_reducible refine gate_callee (f := 117) rfl ?_); refine goB 7 Try.func117 #[.int .i64 a1] rfl ?_; (with_reducible refine (spec_Modulus.calls a1 z0 _ A3.out).mono ?_); rintro e w' ⟨rfl, ⟨nd, rfl⟩⟩; refine ⟨_, rfl, ?_⟩) | ((with_reducible refine gate_callee (f := 111) rfl ?_); refine goB 11 Try.func111 #[.pointer (some ⟨g, 0, none⟩), .int .i64 50] rfl ?_; (with_reducible refine (spec_l01Below.calls g s0_0 s0_1 s0_2 50 z1 z2 z3 w0 _ ?side1 ?side2 A5.out).mono ?_); (case side1 => exact xq8); (case side2 => exact xq9); rintro e w6 ⟨rfl, hi, hb, hk⟩; refine ⟨_, rfl, ?_⟩; replace HK := ak (KeepBut.trans kpA hk (.inl rfl)); replace HB := ak hb; replace O0 := ak hi; (try clear hb hk hi)))
   go_ret
   exact ⟨xq1, xq8, xq9, xq17⟩
 rw [if_neg c4] at H; have N0 : (z0 == 0) = false := beq_eq_false_iff_ne.mpr c4; have N1 : (z0 != 0) = true := bne_iff_ne.mpr c4; replace H := Option.bind_eq_some_iff.mp H; obtain ⟨⟨z4, z5, z6⟩, Z2, H⟩ := H; (try dsimp only at H); have A7 := ak Z2; clear Z2
 by_cases c8 : z4 = 0
 · rw [if_pos c8] at H; have N2 : (z4 == 0) = true := beq_iff_eq.mpr c8; have N3 : (z4 != 0) = false := bne_eq_false_iff_eq.mpr c8; clear c8; replace H := Option.bind_eq_some_iff.mp H; obtain ⟨⟨z7, z8, z9⟩, Z3, H⟩ := H; (try dsimp only at H); have A9 := ak Z3; clear Z3; simp only [Option.some.injEq, Prod.mk.injEq] at H; obtain ⟨rfl, rfl, rfl⟩ := H; go_enter Try.func115, Try.ntmps115
   go_wp2_with (first | ((with_reducible refine gate_callee (f := 117) rfl ?_); refine goB 7 Try.func117 #[.int .i64 a1] rfl ?_; (with_reducible refine (spec_Modulus.calls a1 z0 _ A3.out).mono ?_); rintro e w' ⟨rfl, ⟨nd, rfl⟩⟩; refine ⟨_, rfl, ?_⟩) | ((with_reducible refine gate_callee (f := 111) rfl ?_); refine goB 13 Try.func111 #[.pointer (some ⟨g, 0, none⟩), .int .i64 6] rfl ?_; (with_reducible refine (spec_l01Below.calls g s0_0 s0_1 s0_2 6 z4 z5 z6 w0 _ ?side1 ?side2 A7.out).mono ?_); (case side1 => exact xq8); (case side2 => exact xq9); rintro e k0 ⟨rfl, hi, hb, hk⟩; refine ⟨_, rfl, ?_⟩; replace HK := ak (KeepBut.trans kpA hk (.inl rfl)); replace HB := ak hb; replace O0 := ak hi; (try clear hb hk hi)) | ((with_reducible refine gate_callee (f := 111) rfl ?_); refine goB 17 Try.func111 #[.pointer (some ⟨g, 0, none⟩), .int .i64 3] rfl ?_; (with_reducible refine (spec_l01Below.calls g s0_0 z5 z6 3 z7 z8 z9 w0 _ ?side1 ?side2 A9.out).mono ?_); (case side1 => exact xq8); (case side2 => exact xq9); rintro e k1 ⟨rfl, hi, hb, hk⟩; refine ⟨_, rfl, ?_⟩; replace HK := ak (KeepBut.trans kpA hk (.inl rfl)); replace HB := ak hb; replace O0 := ak hi; (try clear hb hk hi)))
   go_ret
   exact ⟨xq1, xq8, xq9, xq17⟩
 rw [if_neg c8] at H; have N2 : (z4 == 0) = false := beq_eq_false_iff_ne.mpr c8; have N3 : (z4 != 0) = true := bne_iff_ne.mpr c8
 by_cases N4 : z4 = 1
 · rw [if_pos N4] at H; have N5 : (z4 == 1) = true := beq_iff_eq.mpr N4; have N6 : (z4 != 1) = false := bne_eq_false_iff_eq.mpr N4; clear N4; replace H := Option.bind_eq_some_iff.mp H; obtain ⟨⟨za, zb, zc⟩, Z4, H⟩ := H; (try dsimp only at H); have Z5 := ak Z4; clear Z4; simp only [Option.some.injEq, Prod.mk.injEq] at H; obtain ⟨rfl, rfl, rfl⟩ := H; go_enter Try.func115, Try.ntmps115
   go_wp2_with (first | ((with_reducible refine gate_callee (f := 117) rfl ?_); refine goB 7 Try.func117 #[.int .i64 a1] rfl ?_; (with_reducible refine (spec_Modulus.calls a1 z0 _ A3.out).mono ?_); rintro e w' ⟨rfl, ⟨nd, rfl⟩⟩; refine ⟨_, rfl, ?_⟩) | ((with_reducible refine gate_callee (f := 111) rfl ?_); refine goB 13 Try.func111 #[.pointer (some ⟨g, 0, none⟩), .int .i64 6] rfl ?_; (with_reducible refine (spec_l01Below.calls g s0_0 s0_1 s0_2 6 z4 z5 z6 w0 _ ?side1 ?side2 A7.out).mono ?_); (case side1 => exact xq8); (case side2 => exact xq9); rintro e k2 ⟨rfl, hi, hb, hk⟩; refine ⟨_, rfl, ?_⟩; replace HK := ak (KeepBut.trans kpA hk (.inl rfl)); replace HB := ak hb; replace O0 := ak hi; (try clear hb hk hi)) | ((with_reducible refine gate_callee (f := 111) rfl ?_); refine goB 25 Try.func111 #[.pointer (some ⟨g, 0, none⟩), .int .i64 3] rfl ?_; (with_reducible refine (spec_l01Below.calls g s0_0 z5 z6 3 za zb zc w0 _ ?side1 ?side2 Z5.out).mono ?_); (case side1 => exact xq8); (case side2 => exact xq9); rintro e k3 ⟨rfl, hi, hb, hk⟩; refine ⟨_, rfl, ?_⟩; replace HK := ak (KeepBut.trans kpA hk (.inl rfl)); replace HB := ak hb; replace O0 := ak hi; (try clear hb hk hi)))
   go_ret
   exact ⟨xq1, xq8, xq9, xq17⟩
 rw [if_neg N4] at H; have N5 : (z4 == 1) = false := beq_eq_false_iff_ne.mpr N4; have N6 : (z4 != 1) = true := bne_iff_ne.mpr N4
 by_cases N7 : z4 = 2; rotate_left
 · rw [if_neg N7] at H; have N8 : (z4 == 2) = false := beq_eq_false_iff_ne.mpr N7; have N9 : (z4 != 2) = true := bne_iff_ne.mpr N7; replace H := Option.bind_eq_some_iff.mp H; obtain ⟨⟨zd, ze, zf⟩, Z6, H⟩ := H; (try dsimp only at H); have Z7 := ak Z6; clear Z6; simp only [Option.some.injEq, Prod.mk.injEq] at H; obtain ⟨rfl, rfl, rfl⟩ := H; go_enter Try.func115, Try.ntmps115
   go_wp2_with (first | ((with_reducible refine gate_callee (f := 117) rfl ?_); refine goB 7 Try.func117 #[.int .i64 a1] rfl ?_; (with_reducible refine (spec_Modulus.calls a1 z0 _ A3.out).mono ?_); rintro e w' ⟨rfl, ⟨nd, rfl⟩⟩; refine ⟨_, rfl, ?_⟩) | ((with_reducible refine gate_callee (f := 111) rfl ?_); refine goB 13 Try.func111 #[.pointer (some ⟨g, 0, none⟩), .int .i64 6] rfl ?_; (with_reducible refine (spec_l01Below.calls g s0_0 s0_1 s0_2 6 z4 z5 z6 w0 _ ?side1 ?side2 A7.out).mono ?_); (case side1 => exact xq8); (case side2 => exact xq9); rintro e k4 ⟨rfl, hi, hb, hk⟩; refine ⟨_, rfl, ?_⟩; replace HK := ak (KeepBut.trans kpA hk (.inl rfl)); replace HB := ak hb; replace O0 := ak hi; (try clear hb hk hi)) | ((with_reducible refine gate_callee (f := 111) rfl ?_); refine goB 38 Try.func111 #[.pointer (some ⟨g, 0, none⟩), .int .i64 30] rfl ?_; (with_reducible refine (spec_l01Below.calls g s0_0 z5 z6 30 zd ze zf w0 _ ?side1 ?side2 Z7.out).mono ?_); (case side1 => exact xq8); (case side2 => exact xq9); rintro e k5 ⟨rfl, hi, hb, hk⟩; refine ⟨_, rfl, ?_⟩; replace HK := ak (KeepBut.trans kpA hk (.inl rfl)); replace HB := ak hb; replace O0 := ak hi; (try clear hb hk hi)))
   go_ret
   exact ⟨xq1, xq8, xq9, xq17⟩
 rw [if_pos N7] at H; have N8 : (z4 == 2) = true := beq_iff_eq.mpr N7; have N9 : (z4 != 2) = false := bne_eq_false_iff_eq.mpr N7; clear N7; replace H := Option.bind_eq_some_iff.mp H; obtain ⟨⟨zg, zh, zi⟩, Z8, H⟩ := H; (try dsimp only at H); have Z9 := ak Z8; clear Z8; replace H := Option.bind_eq_some_iff.mp H; obtain ⟨⟨zj, zk, zl⟩, Za, H⟩ := H; (try dsimp only at H); have Zb := ak Za; clear Za; simp only [Option.some.injEq, Prod.mk.injEq] at H; obtain ⟨rfl, rfl, rfl⟩ := H; go_enter Try.func115, Try.ntmps115
 go_wp2_with (first | ((with_reducible refine gate_callee (f := 117) rfl ?_); refine goB 7 Try.func117 #[.int .i64 a1] rfl ?_; (with_reducible refine (spec_Modulus.calls a1 z0 _ A3.out).mono ?_); rintro e w' ⟨rfl, ⟨nd, rfl⟩⟩; refine ⟨_, rfl, ?_⟩) | ((with_reducible refine gate_callee (f := 111) rfl ?_); refine goB 13 Try.func111 #[.pointer (some ⟨g, 0, none⟩), .int .i64 6] rfl ?_; (with_reducible refine (spec_l01Below.calls g s0_0 s0_1 s0_2 6 z4 z5 z6 w0 _ ?side1 ?side2 A7.out).mono ?_); (case side1 => exact xq8); (case side2 => exact xq9); rintro e k6 ⟨rfl, hi, hb, hk⟩; refine ⟨_, rfl, ?_⟩; replace HK := ak (KeepBut.trans kpA hk (.inl rfl)); replace HB := ak hb; replace O0 := ak hi; (try clear hb hk hi)) | ((with_reducible refine gate_callee (f := 111) rfl ?_); refine goB 30 Try.func111 #[.pointer (some ⟨g, 0, none⟩), .int .i64 16777216] rfl ?_; (with_reducible refine (spec_l01Below.calls g s0_0 z5 z6 16777216 zg zh zi w0 _ ?side1 ?side2 Z9.out).mono ?_); (case side1 => exact xq8); (case side2 => exact xq9); rintro e k7 ⟨rfl, hi, hb, hk⟩; refine ⟨_, rfl, ?_⟩; replace HK := ak (KeepBut.trans kpA hk (.inl rfl)); replace HB := ak hb; replace O0 := ak hi; (try clear hb hk hi)) | ((with_reducible refine gate_callee (f := 111) rfl ?_); refine goB 33 Try.func111 #[.pointer (some ⟨g, 0, none⟩), .int .i64 256] rfl ?_; (with_reducible refine (spec_l01Below.calls g s0_0 zh zi 256 zj zk zl w0 _ ?side1 ?side2 Zb.out).mono ?_); (case side1 => exact xq8); (case side2 => exact xq9); rintro e k8 ⟨rfl, hi, hb, hk⟩; refine ⟨_, rfl, ?_⟩; replace HK := ak (KeepBut.trans kpA hk (.inl rfl)); replace HB := ak hb; replace O0 := ak hi; (try clear hb hk hi)))
 go_ret
 exact ⟨xq1, xq8, xq9, xq17⟩

def spec_l01DrawList.l0 : Nat → Int → Int → List Int → Int → List Int → Int → Int → Option (List Int × Int × Int)
 | 0, _, _, _, _, _, _, _ => none
 | k + 1, x1, x2, x7, x8, x1000, x1001, x1002 => if x8 < x2 then ((spec_l01DrawElement.f x1000 x1001 x1002 x1).bind fun bt227 => (if x7.length < 17592186044416 then (spec_l01DrawList.l0 k x1 x2 (x7 ++ [bt227.1]) (wrap64 (x8 + 1)) x1000 bt227.2.1 bt227.2.2) else (none))) else (some (x7, x1001, x1002))
def spec_l01DrawList.f (k : Nat) (s0_0 : List Int) (s0_1 : Int) (s0_2 : Int) (a1 : Int) (a2 : Int) : Option (List Int × Int × Int) := spec_l01DrawList.l0 k a1 a2 (([] : List Int)) 0 s0_0 s0_1 s0_2
theorem spec_l01DrawList.mono_l : ∀ k, (∀ y0 y1 y2 y3 y4 y5 y6, LeO (spec_l01DrawList.l0 k y0 y1 y2 y3 y4 y5 y6) (spec_l01DrawList.l0 (k + 1) y0 y1 y2 y3 y4 y5 y6))
 | 0 => fun _ _ _ _ _ _ _ r h => by simp [spec_l01DrawList.l0] at h
 | k + 1 => by
  have ih0 := spec_l01DrawList.mono_l k
  · intro y0 y1 y2 y3 y4 y5 y6; unfold spec_l01DrawList.l0; exact xq86
theorem spec_l01DrawList.mono : ∀ a0 a1 a2 a3 a4 k, LeO (spec_l01DrawList.f k a0 a1 a2 a3 a4) (spec_l01DrawList.f (k + 1) a0 a1 a2 a3 a4) := by
 intro a0 a1 a2 a3 a4 k; have b0 := spec_l01DrawList.mono_l k
 unfold spec_l01DrawList.f
 exact xq87
theorem spec_l01DrawList.calls (k : Nat) (g : Nat) (s0_0 : List Int) (s0_1 : Int) (s0_2 : Int) (a1 : Int) (a2 : Int) (r1 : List Int) (r2 : Int) (r3 : Int) (w0 w : World) (hI : IsS129 w0 w g s0_0 s0_1 s0_2) (hB : Below w0.heap.size w0 w) (h : spec_l01DrawList.f k s0_0 s0_1 s0_2 a1 a2 = some (r1, r2, r3)) :
 Calls Try.prog 62 #[.pointer (some ⟨g, 0, none⟩), .int .i64 a1, .int .i64 a2] w fun e w' => ∃ v0_ : Value, e = .returned (v0_) ∧ Kd.R (Kd.int .i64) 3 w' w.heap.size (fun _ => True) v0_ r1 ∧ IsS129 w0 w' g s0_0 r2 r3 ∧ Below w0.heap.size w0 w' ∧ KeepBut w w' g none := by
 have O0 := ak hI; have HK := ak (KeepBut.refl w g none); have HL := ak hB.size; clear hI; have w3 := ak hB.size; have HB := ak hB; clear hB; have H : (spec_l01DrawList.l0 k a1 a2 (([] : List Int)) 0 s0_0 s0_1 s0_2) = some (r1, r2, r3) := h; clear h; obtain ⟨K0, hyq⟩ : ∃ y_ : List Int, y_ = (([] : List Int)) := ⟨_, rfl⟩; replace H : (spec_l01DrawList.l0 k a1 a2 K0 0 s0_0 s0_1 s0_2) = some (r1, r2, r3) := by first | (rw [hyq]; with_reducible exact H) | (have e0 := (Option.bind_some _ _).symm.trans H; rw [hyq]; with_reducible exact e0) | (have e0 := (Option.bind_some _ _).symm.trans H; with_reducible exact e0) | with_reducible exact H | (rw [hyq]; exact H) | exact H
 have E0 := ak hyq; clear hyq; have H' := ak H; clear H; go_enter Try.func62, Try.ntmps62
 go_wp2_with (first | ((with_reducible refine gate_dst (N := 9) rfl ?_); refine Kd.R_lit (Kd.int .i64) _ 3 ?hg (N := 9) ?hd (xs := ([] : List Int)) (inner := []) (ok := fun _ => True) (okp := fun _ => True) ?hr ?hp (fun _ hk => hk) trivial (Below.refl _ _) (Nat.le_refl _) (by simp) ?_; (case hd => rfl); (case hg => rfl); (case hr => exact xq4); (case hp => exact (Reps.none _ _)); intro d0 w4 D0 hb hg_ hnew_; clear hg_ hnew_; (first | rw [← E0.out] at D0 | (simp only [Int.reduceToNat] at D0; rw [← E0.out] at D0)); have f0 := ak (Kd.R_lower D0 (keep_size (w := w) (g := g) (row := none) kpA)); replace HK := ak (KeepBut.trans kpA (KeepBut.of_below hb g none) (.inl rfl)); replace HB := ak (below_step xq9 hb); replace O0 := ak (IsS129.below xq8 hb); clear hb D0))
 go_loopg [7, 8] k (fun kq v7 v8 w' => ∃ (W0 : List Int) (W1 : Int) (W2 : Int) (W3 : Int), v8 = .int .i64 W1 ∧ Aside0 (spec_l01DrawList.l0 kq a1 a2 W0 W1 s0_0 W2 W3 = some (r1, r2, r3)) ∧ Aside0 (kq ≤ k) ∧ Aside0 (Kd.R (Kd.int .i64) 3 w' w.heap.size (fun _ => True) v7 W0) ∧ Aside0 (IsS129 w0 w' g s0_0 W2 W3) ∧ Aside0 (KeepBut w w' g none) ∧ Aside0 (Below w0.heap.size w0 w'))
 case atStart => exact ⟨(K0), (0), (s0_1), (s0_2), eqA, H', ⟨Nat.le_refl _⟩, ⟨rA f0⟩, ⟨xq8⟩, ⟨kpA⟩, ⟨xq9⟩⟩
 case round =>
  clear H'; obtain ⟨W0, W1, W2, W3, rfl, HA, n0, f1, O0, HK, HB⟩ := hrel
  cases gk with
  | zero => exact absurd HA.out (by simp [spec_l01DrawList.l0])
  | succ k1 =>
   have H := HA.out; clear HA; simp only [spec_l01DrawList.l0] at H
   by_cases c6 : W1 < a2; rotate_left
   · rw [if_neg c6] at H; have N0 := decide_eq_false c6; clear c6; simp only [Option.some.injEq, Prod.mk.injEq] at H; obtain ⟨rfl, rfl, rfl⟩ := H; go_wp2
     go_ret
     exact ⟨_, xq1, xq82, xq8, xq9, xq17⟩
   rw [if_pos c6] at H; have N0 := decide_eq_true c6; clear c6; replace H := Option.bind_eq_some_iff.mp H; obtain ⟨⟨z0, z1, z2⟩, Z0, H⟩ := H; (try dsimp only at H); have A7 := ak Z0; clear Z0
   by_cases c8 : W0.length < 17592186044416; rotate_left
   · rw [if_neg c8] at H; exact absurd H (by simp)
   rw [if_pos c8] at H; have c0 := ak c8; clear c8; obtain ⟨K1, hyq⟩ : ∃ y_ : List Int, y_ = (W0 ++ [z0]) := ⟨_, rfl⟩; replace H : (spec_l01DrawList.l0 k1 a1 a2 K1 (wrap64 (W1 + 1)) s0_0 z1 z2) = some (r1, r2, r3) := by first | (rw [hyq]; with_reducible exact H) | (have e0 := (Option.bind_some _ _).symm.trans H; rw [hyq]; with_reducible exact e0) | (have e0 := (Option.bind_some _ _).symm.trans H; with_reducible exact e0) | with_reducible exact H | (rw [hyq]; exact H) | exact H
   have E1 := ak hyq; clear hyq; have H' := ak H; clear H; go_wp2_with (first | ((with_reducible refine gate_callee (f := 115) rfl ?_); refine goB 18 Try.func115 #[.pointer (some ⟨g, 0, none⟩), .int .i64 a1] rfl ?_; (with_reducible refine (spec_l01DrawElement.calls g s0_0 W2 W3 a1 z0 z1 z2 w0 _ ?side1 ?side2 A7.out).mono ?_); (case side1 => exact xq8); (case side2 => exact xq9); rintro e w9 ⟨rfl, hi, hb, hk⟩; refine ⟨_, rfl, ?_⟩; replace f1 := ak (Kd.R_mono (Kd.R_keep (IsS129.apart (show IsS129 w0 _ g s0_0 W2 W3 from xq8) (rF f1) (by decide)) hk (fun _ h => h.2)) (fun _ h => h.1)); replace HK := ak (KeepBut.trans kpA hk (.inl rfl)); replace HB := ak hb; replace O0 := ak hi; (try clear hb hk hi)) | ((with_reducible refine gate_builtin (b := .append) (xs := #[.tmp 15, .tmp 19]) rfl ?_); at_builtin; refine Kd.R_append (Kd.int .i64) w.heap.size rfl (.tmp 15) (.tmp 19) 27 3 (.int .i64 0) 8 rfl Try.underlying27 info3 rfl (by decide) (by omega) u7 W0 z0 [.int .i64 z0] (fun _ => True) (fun _ => False) rfl rfl ?aP (fun _ hk => hk.elim) ?aF ?aO (Below.refl _ _) ?aS ?aL ?_; (case aP => exact rfl); (case aF => exact (fun _ _ => trivial)); (case aO => exact (rF f1)); (case aS => exact (keep_size (w := w) (g := g) (row := none) kpA)); (case aL => exact xq40); intro d1 k0 ho hb hg hat; rw [← E1.out] at ho; have f2 := ak ho; replace HB := ak (below_weaken xq9 HL.out hb); replace O0 := ak (IsS129.grown (by first | exact O0.out | (repeat (first | (with_reducible first | exact O0.out | apply IsS129.alloc | apply IsS129.drewN | apply IsS129.drew | apply IsS129.set_1 | apply IsS129.set_2) | exact O0.out))) hg (IsS129.own_ne O0.out f1.out (by decide))); replace HK := ak (KeepBut.trans kpA (KeepBut.of_grown hg g) (Kd.R_base2 f1.out)); clear f1; clear ho hb hg hat))
   go_roundg k1
   case measure => have := n0.out; omega
   case rel => exact ⟨(K1), (wrap64 (W1 + 1)), (z1), (z2), eqA, H', ⟨xq16⟩, ⟨rA f2⟩, ⟨xq8⟩, ⟨kpA⟩, ⟨xq9⟩⟩

def spec_DrawRunPlan.j0 : Nat → Int → List Int → Int → Int → Int → Int → List (S36) → Option (Int × Int × (List (S36)) × List Int)
 | 0, _, _, _, _, _, _, _ => none
 | k + 1, x6, x238000, x238001, x238002, x246000, x246001, x246002 => (spec_l01Once.f x238000 x238001 x238002 12).bind fun bt247 => (if bt247.1 = true then ((spec_l01DrawList.f k x238000 bt247.2.1 bt247.2.2 x246000 (wrap64 (2 * x6))).bind fun bt250 => (some (x246000, x246001, x246002, bt250.1))) else ((spec_l01DrawList.f k x238000 bt247.2.1 bt247.2.2 x246000 x6).bind fun bt255 => (some (x246000, x246001, x246002, bt255.1))))
def spec_DrawRunPlan.f (k : Nat) (l0 : List Int) : Option (Int × Int × (List (S36)) × List Int) := (spec_l01New.f k l0).bind fun bt234 => ((spec_l09DrawPlan.f k bt234.1 bt234.2.1 bt234.2.2 l0).bind fun bt238 => ((spec_l01In.f bt238.2.1 0 9).bind fun t246 => (if t246 = true then (if 0 ≤ (IntKind.u64.wrap (bt238.2.1)) then (spec_DrawRunPlan.j0 k (shl .i64 1 (IntKind.u64.wrap (bt238.2.1))) bt234.1 bt238.2.2.2.1 bt238.2.2.2.2 bt238.1 bt238.2.1 bt238.2.2.1) else (none)) else (spec_DrawRunPlan.j0 k 1 bt234.1 bt238.2.2.2.1 bt238.2.2.2.2 bt238.1 bt238.2.1 bt238.2.2.1))))
theorem spec_DrawRunPlan.mono_l : ∀ k, (∀ y0 y1 y2 y3 y4 y5 y6, LeO (spec_DrawRunPlan.j0 k y0 y1 y2 y3 y4 y5 y6) (spec_DrawRunPlan.j0 (k + 1) y0 y1 y2 y3 y4 y5 y6))
 | 0 => fun _ _ _ _ _ _ _ r h => by simp [spec_DrawRunPlan.j0] at h
 | k + 1 => by
  have ih0 := spec_DrawRunPlan.mono_l k
  · intro y0 y1 y2 y3 y4 y5 y6; unfold spec_DrawRunPlan.j0; exact (by repeat' (with_reducible first | exact ih0 _ _ _ _ _ _ _ | exact spec_l01DrawList.mono _ _ _ _ _ _ | exact spec_l01New.mono _ _ | exact spec_l09DrawPlan.mono _ _ _ _ _ | exact LeO.refl _ | exact LeO.none _ | refine LeO.ite ?_ ?_ | refine LeO.bind ?_ (fun _ => ?_)))
theorem spec_DrawRunPlan.mono : ∀ a0 k, LeO (spec_DrawRunPlan.f k a0) (spec_DrawRunPlan.f (k + 1) a0) := by
 intro a0 k; have b0 := spec_DrawRunPlan.mono_l k
 unfold spec_DrawRunPlan.f
 exact (by repeat' (with_reducible first | exact b0 _ _ _ _ _ _ _ | exact spec_l01DrawList.mono _ _ _ _ _ _ | exact spec_l01New.mono _ _ | exact spec_l09DrawPlan.mono _ _ _ _ _ | exact LeO.refl _ | exact LeO.none _ | refine LeO.ite ?_ ?_ | refine LeO.bind ?_ (fun _ => ?_)))
def spec_DrawRunPlan.T8 : Bool × List (List Nat × List Nat) := (true, [([], []), ([], []), ([], []), ([2], [2]), ([], []), ([1, 3, 4], [1, 3, 4]), ([0, 5, 0], [0]), ([5, 6, 0, 1, 2, 3, 4, 5, 6], [5])])
def spec_DrawRunPlan.B8 : List Nat := [0, 0, 0, 4, 0, 30, 63, 127]
theorem spec_DrawRunPlan.tab8 : rtab .any (opsOf Try.f10 8) = spec_DrawRunPlan.T8 := by kernel_rfl
theorem spec_DrawRunPlan.bits8 : waitsOk spec_DrawRunPlan.T8.2 spec_DrawRunPlan.B8 = true := by kernel_rfl
theorem spec_DrawRunPlan.calls (k : Nat) (A0 : Option Addr) (c0 : Nat) (l0 : List Int) (r1 : Int) (r2 : Int) (r3 : List (S36)) (r4 : List Int) (w : World) (hr0 : Kd.C (Kd.int .u8) w A0 l0.length l0) (hc0 : l0.length ≤ c0) (h : spec_DrawRunPlan.f k l0 = some (r1, r2, r3, r4)) :
 Calls Try.prog 10 #[.slice A0 l0.length c0] w fun e w' => ∃ v2_ v3_ : Value, e = .returned (.tuple #[.agg #[.int .i64 r1, .int .i64 r2, v2_], v3_]) ∧ Kd.Q k36 36 w' w.heap.size (fun _ => True) v2_ r3 ∧ Kd.R (Kd.int .i64) 3 w' w.heap.size (fun _ => True) v3_ r4 ∧ Below w.heap.size w w' := by
 have B0 := Try.underlying26; have g0 := ak hr0; have x0 := ak hc0; clear hr0 hc0; have HB := ak (Below.refl w.heap.size w); have H : ((spec_l01New.f k l0).bind fun U0 => ((spec_l09DrawPlan.f k U0.1 U0.2.1 U0.2.2 l0).bind fun U1 => ((spec_l01In.f U1.2.1 0 9).bind fun z0 => (if z0 = true then (if 0 ≤ (IntKind.u64.wrap (U1.2.1)) then (spec_DrawRunPlan.j0 k (shl .i64 1 (IntKind.u64.wrap (U1.2.1))) U0.1 U1.2.2.2.1 U1.2.2.2.2 U1.1 U1.2.1 U1.2.2.1) else (none)) else (spec_DrawRunPlan.j0 k 1 U0.1 U1.2.2.2.1 U1.2.2.2.2 U1.1 U1.2.1 U1.2.2.1))))) = some (r1, r2, r3, r4) := h; clear h; replace H := Option.bind_eq_some_iff.mp H; obtain ⟨⟨z1, z2, z3⟩, Z0, H⟩ := H; (try dsimp only at H); have A2 := ak Z0; clear Z0; replace H := Option.bind_eq_some_iff.mp H; obtain ⟨⟨z4, z5, z6, z7, z8⟩, Z1, H⟩ := H; (try dsimp only at H); have A3 := ak Z1; clear Z1; replace H := Option.bind_eq_some_iff.mp H; obtain ⟨z0, Z2, H⟩ := H; (try dsimp only at H); have A4 := ak Z2; clear Z2; have x1 := ak H; clear H; go_enter Try.func10, Try.ntmps10
 go_upto_if 14 with (first | ((with_reducible refine gate_dst (N := 2) rfl ?_); refine boxA 2 #[.int .i64 0, .int .i64 0, .slice none 0 0] 26 ?_; intro c1 hg w6 hbox hb; have C0 := ak hbox; have y0 := leA (w := w) hg; have Y0 := leA (w := w) hg; replace HB := bS hb; clear hb hbox hg) | ((with_reducible refine gate_callee (f := 58) rfl ?_); refine goB 8 Try.func58 #[.slice A0 l0.length c0] rfl ?_; (with_reducible refine (spec_l01New.calls k _ _ l0 z1 z2 z3 w _ ?side1 ?side2 ?side3 A2.out).mono ?_); (case side1 => repeat (first | (with_reducible first | exact HB.out | apply below_alloc | apply pw_below_drewN | apply below_drew1 | refine below_set ?_ Y0.out) | exact HB.out)); (case side2 => exact g0.out); (case side3 => exact x0.out); rintro e w7 ⟨B2, rfl, hi, hb, w3⟩; refine ⟨_, rfl, ?_⟩; have O0 := ak hi; have i0 := ak (IsS129.ne_blk hi (blk_below (g := c1) (o := .cells #[.int .i64 0, .int .i64 0, .slice none 0 0] 26 (0, 0)) blkA w3) (by decide)); have i1 := ak (Ne.symm (IsS129.ne_blk hi (blk_below (g := c1) (o := .cells #[.int .i64 0, .int .i64 0, .slice none 0 0] 26 (0, 0)) blkA w3) (by decide))); replace C0 := ak (blk_below (g := c1) (o := .cells #[.int .i64 0, .int .i64 0, .slice none 0 0] 26 (0, 0)) blkA w3); replace HB := ak hb; (try clear hb w3 hi)) | ((with_reducible refine gate_callee (f := 59) rfl ?_); refine goB 11 Try.func59 #[.pointer (some ⟨B2, 0, none⟩), .slice A0 l0.length c0] rfl ?_; (with_reducible refine (spec_l09DrawPlan.calls k B2 z1 z2 z3 _ _ l0 z4 z5 z6 z7 z8 w _ ?side1 ?side2 ?side3 ?side4 ?side5 A3.out).mono ?_); (case side1 => exact xq19); (case side2 => exact xq20); (case side3 => exact cA (Kd.C_below g0.out HB.out)); (case side4 => exact x0.out); (case side5 => exact Kd.far_C 0 g0.out (IsS129.ge O0.out)); rintro e w8 ⟨d0, rfl, D0, hi, hb, hk⟩; refine ⟨_, rfl, ?_⟩; have f0 := ak (Kd.Q_lower D0 (below_size xq20)); replace C0 := ak (KeepBut.blk hk (g' := c1) (o := .cells #[.int .i64 0, .int .i64 0, .slice none 0 0] 26 (0, 0)) blkA i1.out (by simp)); replace HB := ak hb; replace O0 := ak hi; (try clear hb hk hi D0)) | ((with_reducible refine gate_dst (N := 5) rfl ?_); refine boxA 5 #[.int .i64 0, .int .i64 0, .slice none 0 0] 26 ?_; intro ca hg w9 hbox hb; have C1 := ak hbox; have y1 := ak ((by rw [hg]; exact (below_size xq20) : w.heap.size ≤ ca)); have Y1 := ak ((by rw [hg]; exact (below_size xq20) : w.heap.size ≤ ca)); have i2 := neL hg C0; have i3 := neG hg C0; have i4 := ak ((by rw [hg]; exact Nat.ne_of_lt (IsS129.lt (show IsS129 w _ B2 z1 z7 z8 from xq19)) : B2 ≠ ca)); have i5 := ak ((by rw [hg]; exact Nat.ne_of_gt (IsS129.lt (show IsS129 w _ B2 z1 z7 z8 from xq19)) : ca ≠ B2)); replace f0 := qB f0 hb; replace C0 := bB C0 hb; replace HB := ak (below_step xq20 hb); replace O0 := ak (IsS129.below xq19 hb); clear hb hbox hg; have I0 := i3.out; have j3 := i2.out; have I1 := i5.out; have j5 := i4.out; obtain ⟨_, _, _, _, _, _⟩ := cel3 C1; obtain ⟨F0, l6, L0, _⟩ := Kd.Q_slice f0.out; subst L0) | ((with_reducible refine gate_callee (f := 60) rfl ?_); refine goB 14 Try.func60 #[.int .i64 z5, .int .i64 0, .int .i64 9] rfl ?_; (with_reducible refine (spec_l01In.calls z5 0 9 z0 _ A4.out).mono ?_); rintro e w' ⟨rfl, ⟨nd, rfl⟩⟩; refine ⟨_, rfl, ?_⟩))
 (try simp only [Act.put, sa, sb, sc])
 go_cut [6] (fun v6 wc => ∃ (kq : Nat) (W0 : Int), v6 = .int .i64 W0 ∧ Aside0 (spec_DrawRunPlan.j0 kq W0 z1 z7 z8 z4 z5 z6 = some (r1, r2, r3, r4)) ∧ Aside0 (kq ≤ k) ∧ Aside0 (Kd.Q k36 36 wc w.heap.size (fun _ => True) (.slice F0 z6.length l6) z6) ∧ Aside0 (wc.heap[c1]? = some (.cells #[.int .i64 0, .int .i64 0, (.slice none 0 0)] 26 (0, 0))) ∧ Aside0 (wc.heap[ca]? = some (.cells #[.int .i64 z4, .int .i64 z5, (.slice F0 z6.length l6)] 26 (0, 0))) ∧ Aside0 (IsS129 w wc B2 z1 z7 z8) ∧ Aside0 (Below w.heap.size w wc))
 case first =>
  have H := x1.out; clear x1
  by_cases N0 : z0 = true; rotate_left
  · replace N0 := Bool.eq_false_iff.mpr N0; subst N0; have H1 : (spec_DrawRunPlan.j0 k 1 z1 z7 z8 z4 z5 z6) = some (r1, r2, r3, r4) := by rw [if_neg (show ¬ (false = true) by decide)] at H; exact H
    clear H; have H := H1; clear H1; have H' := ak H; clear H; go_wp2
    go_meet
    case rel => exact ⟨_, (1), eqA, H', ⟨xq11⟩, ⟨qE (Kd.Q_mono (Kd.Q_far (p := ⟨ca, 2, none⟩) (Kd.Q_far (p := ⟨ca, 1, none⟩) (Kd.Q_far (p := ⟨ca, 0, none⟩) (Kd.Q_types f0.out C1.out (by decide)) (fun _ hk => hk.2) (.int .i64 z4)) (fun _ hk => hk.2) (.int .i64 z5)) (fun _ hk => hk.2) (.slice F0 z6.length l6)) (fun _ hk => trivial))⟩, ⟨xq27⟩, ⟨xq117⟩, ⟨xq2⟩, ⟨xq5⟩⟩
  subst N0; have H1 : (if 0 ≤ (IntKind.u64.wrap (z5)) then (spec_DrawRunPlan.j0 k (shl .i64 1 (IntKind.u64.wrap (z5))) z1 z7 z8 z4 z5 z6) else (none)) = some (r1, r2, r3, r4) := by rw [if_pos rfl] at H; exact H
  clear H; have H := H1; clear H1; obtain ⟨J0, G0⟩ : ∃ j_ : Int, (IntKind.u64.wrap (z5)) = j_ := ⟨_, rfl⟩; replace H : (if 0 ≤ (J0) then (spec_DrawRunPlan.j0 k (shl .i64 1 (J0)) z1 z7 z8 z4 z5 z6) else (none)) = some (r1, r2, r3, r4) := by first | (rw [G0] at H; exact H) | (simp only [G0] at H ⊢; exact H)
  by_cases N1 : 0 ≤ (J0); rotate_left
  · rw [if_neg N1] at H; exact absurd H (by simp)
  rw [if_pos N1] at H; have N2 := eq_true N1; have N3 : decide (0 ≤ (J0)) = true := decide_eq_true N1; clear N1; obtain ⟨J1, G1⟩ : ∃ j_ : Int, (shl .i64 1 (J0)) = j_ := ⟨_, rfl⟩; replace H : (spec_DrawRunPlan.j0 k J1 z1 z7 z8 z4 z5 z6) = some (r1, r2, r3, r4) := by first | (rw [G1] at H; exact H) | (simp only [G1] at H ⊢; exact H)
  have G2 : (IntKind.i64.wrap (1 * 2 ^ min (J0).toNat 64)) = J1 := G1; have hji17z : (J0) ≤ 64 → (IntKind.i64.wrap (1 * 2 ^ (J0).toNat)) = J1 := shl_small G1; have hji17u : (IntKind.i64.wrap (2 ^ min (J0).toNat 64)) = J1 := by have h_ := G2; rw [Int.one_mul] at h_; exact h_
  have hji17v : (J0) ≤ 64 → (IntKind.i64.wrap (2 ^ (J0).toNat)) = J1 := fun hle_ => by have h_ := hji17z hle_; rw [Int.one_mul] at h_; exact h_
  have hji17y : (wrap64 (1 * 2 ^ min (J0).toNat 64)) = J1 := (i64_w _).symm.trans G2; have hji17x : (J0) ≤ 64 → (wrap64 (1 * 2 ^ (J0).toNat)) = J1 := fun h_ => (i64_w _).symm.trans (hji17z h_)
  have H' := ak H; clear H; have I2 := i3.out; have j6 := i2.out; have I3 := i5.out; have j7 := i4.out; obtain ⟨_, _, _, _, _, _⟩ := cel3 C1; go_wp2
  go_meet
  case rel => exact ⟨_, (J1), xq108, H', ⟨xq11⟩, ⟨qE (Kd.Q_mono (Kd.Q_far (p := ⟨ca, 2, none⟩) (Kd.Q_far (p := ⟨ca, 1, none⟩) (Kd.Q_far (p := ⟨ca, 0, none⟩) (Kd.Q_types f0.out C1.out (by decide)) (fun _ hk => hk.2) (.int .i64 z4)) (fun _ hk => hk.2) (.int .i64 z5)) (fun _ hk => hk.2) (.slice F0 z6.length l6)) (fun _ hk => trivial))⟩, ⟨xq27⟩, ⟨xq117⟩, ⟨xq2⟩, ⟨xq5⟩⟩
 case rest =>
  clear x1; obtain ⟨kq, W0, rfl, HA, t0, f1, C0, C1, O0, HB⟩ := hcut
  cases kq with
  | zero => exact absurd HA.out (by simp [spec_DrawRunPlan.j0])
  | succ g1 =>
   have H := HA.out; clear HA; simp only [spec_DrawRunPlan.j0] at H; replace H := Option.bind_eq_some_iff.mp H; obtain ⟨⟨z9, za, zb⟩, Z3, H⟩ := H; (try dsimp only at H); have Z4 := ak Z3; clear Z3
   by_cases N4 : z9 = true
   · subst N4; have H1 : ((spec_l01DrawList.f g1 z1 za zb z4 (wrap64 (2 * W0))).bind fun U2 => (some (z4, z5, z6, U2.1))) = some (r1, r2, r3, r4) := by rw [if_pos rfl] at H; exact H
     clear H; have H := H1; clear H1; replace H := Option.bind_eq_some_iff.mp H; obtain ⟨⟨zc, zd, ze⟩, Z5, H⟩ := H; (try dsimp only at H); have Z6 := ak Z5; clear Z5; simp only [Option.some.injEq, Prod.mk.injEq] at H; obtain ⟨rfl, rfl, rfl, rfl⟩ := H; try go_wp2_with (first | ((with_reducible refine gate_callee (f := 61) rfl ?_); refine goB 20 Try.func61 #[.pointer (some ⟨B2, 0, none⟩), .int .i64 12] rfl ?_; (with_reducible refine (spec_l01Once.calls B2 z1 z7 z8 12 true za zb w _ ?side1 ?side2 Z4.out).mono ?_); (case side1 => exact xq2); (case side2 => exact xq5); rintro e k0 ⟨rfl, hi, hb, hk⟩; refine ⟨_, rfl, ?_⟩; have x2 := ak (Kd.Q_mono (Kd.Q_keep (IsS129.apartQ (show IsS129 w _ B2 z1 z7 z8 from xq2) (qA f1) (by decide)) hk (fun _ h => h.2)) (fun _ h => h.1)); have x3 := ak (KeepBut.blk hk (g' := c1) (o := .cells #[.int .i64 0, .int .i64 0, .slice none 0 0] 26 (0, 0)) blkA i1.out (by simp)); have x4 := ak (KeepBut.blk hk (g' := ca) (o := .cells #[.int .i64 z4, .int .i64 z5, .slice F0 z6.length l6] 26 (0, 0)) blkA i5.out (by simp)); have x5 := ak hb; have x6 := ak hi; clear f1; clear C0; clear C1; clear HB; clear O0; have f1 := x2; have C0 := x3; have C1 := x4; have HB := x5; have O0 := x6; clear x2 x3 x4 x5 x6; (try clear hb hk hi)))
     replace f1 := ak (Kd.Q_drew f1.out); replace C0 := ak (blk_drew C0.out); replace C1 := ak (blk_drew C1.out); replace O0 := ak (IsS129.drew O0.out); replace HB := ak (below_drew1 HB.out); refine start_ (n := 8) (S := fun w' => w'.cell? ⟨ca, 0, none⟩ = some (.int .i64 z4) ∧ w'.cell? ⟨ca, 1, none⟩ = some (.int .i64 z5) ∧ w'.cell? ⟨ca, 2, none⟩ = some (.slice F0 z6.length l6)) (ds := []) _ (by kernel_rfl) rfl rfl ⟨bc C1 0, bc C1 1, bc C1 2⟩ (fun hHeld => ?_); refine with_tabW spec_DrawRunPlan.tab8 spec_DrawRunPlan.bits8 (fun HT_ HW_ => ?_)
     generalize k0.drew = k1 at f1 C0 C1 O0 HB hHeld ⊢
     refine pR 1 24 (ba 8 2) ?_; refine pR 2 25 (ba 8 6) ?_; refine pR 4 27 (ba 8 22) ?_; refine tR3 0 23 (ba 8 23) ?_; refine tR3 3 26 (ba 8 31) ?_
     refine one_ (i := 5) (N := some 28) (ba 8 63) rfl rfl (one_of HT_.out (by kernel_rfl)) (by decide) (fun K hK => ?_)
     refine goes_ Try.func62 (by kernel_rfl) rfl #[.pointer (some ⟨B2, 0, none⟩), .int .i64 z4, .int .i64 (wrap64 (2 * W0))] (by rfl) rfl rfl xq12 ?_
     with_reducible refine (spec_l01DrawList.calls g1 B2 z1 za zb z4 (wrap64 (2 * W0)) zc zd ze w _ ?side1 ?side2 Z6.out).mono ?_
     (case side1 => exact xq2)
     (case side2 => exact xq5)
     rintro e k2 ⟨d1, rfl, D0, hi, hb, hk⟩
     refine ⟨_, rfl, ?_⟩
     have x2 := ak (Kd.Q_mono (Kd.Q_keep (IsS129.apartQ (show IsS129 w _ B2 z1 za zb from xq2) (qA f1) (by decide)) hk (fun _ h => h.2)) (fun _ h => h.1)); have x3 := ak (KeepBut.blk hk (g' := c1) (o := .cells #[.int .i64 0, .int .i64 0, .slice none 0 0] 26 (0, 0)) blkA i1.out (by simp)); have x4 := ak (KeepBut.blk hk (g' := ca) (o := .cells #[.int .i64 z4, .int .i64 z5, .slice F0 z6.length l6] 26 (0, 0)) blkA i5.out (by simp)); have x5 := ak (Kd.R_lower D0 (below_size xq5)); have x6 := ak hb; have x7 := ak hi; clear f1; clear C0; clear C1; clear HB; clear O0; have f1 := x2; have C0 := x3; have C1 := x4; have f2 := x5; have HB := x6; have O0 := x7; clear x2 x3 x4 x5 x6 x7; (try clear hb hk hi D0); refine hK.out _ _ ⟨bc C1 0, bc C1 1, bc C1 2⟩ (fun hHeld => ?_)
     clear hK K; refine nR 28 ?_
     refine one_ (i := 6) (N := none) (ba 8 127) rfl rfl (one_of HT_.out (by kernel_rfl)) (by decide) (fun K hK => ?_)
     have y2 : k2.cell? ⟨c1, 0, none⟩ = some (.int .i64 0) := bc C0 0; have Y2 := blk_frozen C0.out 0; have v0 := i3.out; have V0 := i2.out; have y3 : k2.cell? ⟨c1, 1, none⟩ = some (.int .i64 0) := bc C0 1; have Y3 := blk_frozen C0.out 1; have v1 := i3.out; have V1 := i2.out; have y4 : k2.cell? ⟨c1, 2, none⟩ = some (.slice none 0 0) := bc C0 2; have Y4 := blk_frozen C0.out 2; have v2 := i3.out; have V2 := i2.out; refine skip_ (w1 := ?_) (by rfl) rfl ?_ ?_
     rotate_left
     · go_simp
       rfl
     refine hK.out _ _ ⟨((cell_far (p := ⟨c1, _, none⟩) i3.out _).trans (((cell_far (p := ⟨c1, _, none⟩) i3.out _).trans (((cell_far (p := ⟨c1, _, none⟩) i3.out _).trans (hHeld.1)))))), ((cell_far (p := ⟨c1, _, none⟩) i3.out _).trans (((cell_far (p := ⟨c1, _, none⟩) i3.out _).trans (((cell_far (p := ⟨c1, _, none⟩) i3.out _).trans (hHeld.2.1)))))), ((cell_far (p := ⟨c1, _, none⟩) i3.out _).trans (((cell_far (p := ⟨c1, _, none⟩) i3.out _).trans (((cell_far (p := ⟨c1, _, none⟩) i3.out _).trans (hHeld.2.2))))))⟩ (fun hHeld => ?_)
     clear hK K; refine pR 7 3 (ba 8 255) ?_
     refine done_ (done_of HT_.out (by kernel_rfl)) ?_
     try go_wp2
     refine bodyPost_ret (results_ct rfl _ _ c1 26 #[.int .i64 z4, .int .i64 z5, .slice F0 z6.length l6] (0, 0) _ rfl xq51 Try.underlying26 rfl (by kernel_rfl)) rfl ?_
     exact ⟨_, _, xq1, xq118, by (with_reducible repeat (first | apply Kd.R_alloc | apply Kd.R_drewN | apply Kd.R_drew)); exact Kd.R_mono (Kd.R_far (p := ⟨c1, 2, none⟩) (Kd.R_far (p := ⟨c1, 1, none⟩) (Kd.R_far (p := ⟨c1, 0, none⟩) (Kd.R_types f2.out C0.out (by decide)) (fun _ hk => hk.2) (.int .i64 z4)) (fun _ hk => hk.2) (.int .i64 z5)) (fun _ hk => hk.2) (.slice F0 z6.length l6)) (fun _ hk => trivial), xq5⟩
   replace N4 := Bool.eq_false_iff.mpr N4; subst N4; have H1 : ((spec_l01DrawList.f g1 z1 za zb z4 W0).bind fun U3 => (some (z4, z5, z6, U3.1))) = some (r1, r2, r3, r4) := by rw [if_neg (show ¬ (false = true) by decide)] at H; exact H
   clear H; have H := H1; clear H1; replace H := Option.bind_eq_some_iff.mp H; obtain ⟨⟨zf, zg, zh⟩, Z7, H⟩ := H; (try dsimp only at H); have Z1 := ak Z7; clear Z7; simp only [Option.some.injEq, Prod.mk.injEq] at H; obtain ⟨rfl, rfl, rfl, rfl⟩ := H; try go_wp2_with (first | ((with_reducible refine gate_callee (f := 61) rfl ?_); refine goB 20 Try.func61 #[.pointer (some ⟨B2, 0, none⟩), .int .i64 12] rfl ?_; (with_reducible refine (spec_l01Once.calls B2 z1 z7 z8 12 false za zb w _ ?side1 ?side2 Z4.out).mono ?_); (case side1 => exact xq2); (case side2 => exact xq5); rintro e k3 ⟨rfl, hi, hb, hk⟩; refine ⟨_, rfl, ?_⟩; have x2 := ak (Kd.Q_mono (Kd.Q_keep (IsS129.apartQ (show IsS129 w _ B2 z1 z7 z8 from xq2) (qA f1) (by decide)) hk (fun _ h => h.2)) (fun _ h => h.1)); have x3 := ak (KeepBut.blk hk (g' := c1) (o := .cells #[.int .i64 0, .int .i64 0, .slice none 0 0] 26 (0, 0)) blkA i1.out (by simp)); have x4 := ak (KeepBut.blk hk (g' := ca) (o := .cells #[.int .i64 z4, .int .i64 z5, .slice F0 z6.length l6] 26 (0, 0)) blkA i5.out (by simp)); have x5 := ak hb; have x6 := ak hi; clear f1; clear C0; clear C1; clear HB; clear O0; have f1 := x2; have C0 := x3; have C1 := x4; have HB := x5; have O0 := x6; clear x2 x3 x4 x5 x6; (try clear hb hk hi)))
   replace f1 := ak (Kd.Q_drew f1.out); replace C0 := ak (blk_drew C0.out); replace C1 := ak (blk_drew C1.out); replace O0 := ak (IsS129.drew O0.out); replace HB := ak (below_drew1 HB.out); refine start_ (n := 8) (S := fun w' => w'.cell? ⟨ca, 0, none⟩ = some (.int .i64 z4) ∧ w'.cell? ⟨ca, 1, none⟩ = some (.int .i64 z5) ∧ w'.cell? ⟨ca, 2, none⟩ = some (.slice F0 z6.length l6)) (ds := []) _ (by kernel_rfl) rfl rfl ⟨bc C1 0, bc C1 1, bc C1 2⟩ (fun hHeld => ?_); refine with_tabW spec_DrawRunPlan.tab8 spec_DrawRunPlan.bits8 (fun HT_ HW_ => ?_)
   generalize k3.drew = k4 at f1 C0 C1 O0 HB hHeld ⊢
   refine pR 1 24 (ba 8 2) ?_; refine pR 2 25 (ba 8 6) ?_; refine pR 4 27 (ba 8 22) ?_; refine tR3 0 23 (ba 8 23) ?_; refine tR3 3 26 (ba 8 31) ?_
   refine one_ (i := 5) (N := some 28) (ba 8 63) rfl rfl (one_of HT_.out (by kernel_rfl)) (by decide) (fun K hK => ?_)
   refine goes_ Try.func62 (by kernel_rfl) rfl #[.pointer (some ⟨B2, 0, none⟩), .int .i64 z4, .int .i64 W0] (by rfl) rfl rfl xq12 ?_
   with_reducible refine (spec_l01DrawList.calls g1 B2 z1 za zb z4 W0 zf zg zh w _ ?side1 ?side2 Z1.out).mono ?_
   (case side1 => exact xq2)
   (case side2 => exact xq5)
   rintro e k5 ⟨d2, rfl, D0, hi, hb, hk⟩
   refine ⟨_, rfl, ?_⟩
   have x2 := ak (Kd.Q_mono (Kd.Q_keep (IsS129.apartQ (show IsS129 w _ B2 z1 za zb from xq2) (qA f1) (by decide)) hk (fun _ h => h.2)) (fun _ h => h.1)); have x3 := ak (KeepBut.blk hk (g' := c1) (o := .cells #[.int .i64 0, .int .i64 0, .slice none 0 0] 26 (0, 0)) blkA i1.out (by simp)); have x4 := ak (KeepBut.blk hk (g' := ca) (o := .cells #[.int .i64 z4, .int .i64 z5, .slice F0 z6.length l6] 26 (0, 0)) blkA i5.out (by simp)); have x5 := ak (Kd.R_lower D0 (below_size xq5)); have x6 := ak hb; have x7 := ak hi; clear f1; clear C0; clear C1; clear HB; clear O0; have f1 := x2; have C0 := x3; have C1 := x4; have f3 := x5; have HB := x6; have O0 := x7; clear x2 x3 x4 x5 x6 x7; (try clear hb hk hi D0); refine hK.out _ _ ⟨bc C1 0, bc C1 1, bc C1 2⟩ (fun hHeld => ?_)
   clear hK K; refine nR 28 ?_
   refine one_ (i := 6) (N := none) (ba 8 127) rfl rfl (one_of HT_.out (by kernel_rfl)) (by decide) (fun K hK => ?_)
   have y5 : k5.cell? ⟨c1, 0, none⟩ = some (.int .i64 0) := bc C0 0; have Y5 := blk_frozen C0.out 0; have v3 := i3.out; have V3 := i2.out; have y6 : k5.cell? ⟨c1, 1, none⟩ = some (.int .i64 0) := bc C0 1; have Y6 := blk_frozen C0.out 1; have v4 := i3.out; have V4 := i2.out; have y7 : k5.cell? ⟨c1, 2, none⟩ = some (.slice none 0 0) := bc C0 2; have Y7 := blk_frozen C0.out 2; have v5 := i3.out; have V5 := i2.out; refine skip_ (w1 := ?_) (by rfl) rfl ?_ ?_
   rotate_left
   · go_simp
     rfl
   refine hK.out _ _ ⟨((cell_far (p := ⟨c1, _, none⟩) i3.out _).trans (((cell_far (p := ⟨c1, _, none⟩) i3.out _).trans (((cell_far (p := ⟨c1, _, none⟩) i3.out _).trans (hHeld.1)))))), ((cell_far (p := ⟨c1, _, none⟩) i3.out _).trans (((cell_far (p := ⟨c1, _, none⟩) i3.out _).trans (((cell_far (p := ⟨c1, _, none⟩) i3.out _).trans (hHeld.2.1)))))), ((cell_far (p := ⟨c1, _, none⟩) i3.out _).trans (((cell_far (p := ⟨c1, _, none⟩) i3.out _).trans (((cell_far (p := ⟨c1, _, none⟩) i3.out _).trans (hHeld.2.2))))))⟩ (fun hHeld => ?_)
   clear hK K; refine pR 7 3 (ba 8 255) ?_
   refine done_ (done_of HT_.out (by kernel_rfl)) ?_
   try go_wp2
   refine bodyPost_ret (results_ct rfl _ _ c1 26 #[.int .i64 z4, .int .i64 z5, .slice F0 z6.length l6] (0, 0) _ rfl xq51 Try.underlying26 rfl (by kernel_rfl)) rfl ?_
   exact ⟨_, _, xq1, xq118, by (with_reducible repeat (first | apply Kd.R_alloc | apply Kd.R_drewN | apply Kd.R_drew)); exact Kd.R_mono (Kd.R_far (p := ⟨c1, 2, none⟩) (Kd.R_far (p := ⟨c1, 1, none⟩) (Kd.R_far (p := ⟨c1, 0, none⟩) (Kd.R_types f3.out C0.out (by decide)) (fun _ hk => hk.2) (.int .i64 z4)) (fun _ hk => hk.2) (.int .i64 z5)) (fun _ hk => hk.2) (.slice F0 z6.length l6)) (fun _ hk => trivial), xq5⟩

def spec_LogOf.l0 : Nat → Int → Int → Option (Int)
 | 0, _, _ => none
 | k + 1, x0, x3 => if x3 ≤ 9 then (if 0 ≤ (IntKind.u64.wrap (x3)) then (if x0 = (shl .i64 1 (IntKind.u64.wrap (x3))) then (some x3) else (spec_LogOf.l0 k x0 (wrap64 (x3 + 1)))) else (none)) else (some (-1))
def spec_LogOf.f (k : Nat) (a0 : Int) : Option (Int) := spec_LogOf.l0 k a0 0
theorem spec_LogOf.mono_l : ∀ k, (∀ y0 y1, LeO (spec_LogOf.l0 k y0 y1) (spec_LogOf.l0 (k + 1) y0 y1))
 | 0 => fun _ _ r h => by simp [spec_LogOf.l0] at h
 | k + 1 => by
  have ih0 := spec_LogOf.mono_l k
  · intro y0 y1; unfold spec_LogOf.l0; exact xq63
theorem spec_LogOf.mono : ∀ a0 k, LeO (spec_LogOf.f k a0) (spec_LogOf.f (k + 1) a0) := by
 intro a0 k; have b0 := spec_LogOf.mono_l k
 unfold spec_LogOf.f
 exact xq64
theorem spec_LogOf.calls (k : Nat) (a0 : Int) (r : Int) (w : World) (h : spec_LogOf.f k a0 = some r) :
 Calls Try.prog 66 #[.int .i64 a0] w fun e w' => e = .returned (.int .i64 r) ∧ Drawn0 w w' := by
 have H : (spec_LogOf.l0 k a0 0) = some r := h; clear h; have H' := ak H; clear H; go_enter Try.func66, Try.ntmps66
 go_wp2
 go_loopg [3] k (fun kq v3 w' => ∃ (W0 : Int), v3 = .int .i64 W0 ∧ Aside0 (spec_LogOf.l0 kq a0 W0 = some r) ∧ Aside0 (kq ≤ k) ∧ Drawn0 w w')
 case atStart => exact ⟨(0), eqA, H', ⟨Nat.le_refl _⟩, xq3⟩
 case round =>
  clear H'; obtain ⟨W0, rfl, HA, n0, ⟨m1, rfl⟩⟩ := hrel
  cases gk with
  | zero => exact absurd HA.out (by simp [spec_LogOf.l0])
  | succ k1 =>
   have H := HA.out; clear HA; simp only [spec_LogOf.l0] at H
   by_cases c2 : W0 ≤ 9; rotate_left
   · rw [if_neg c2] at H; have N0 := decide_eq_false c2; clear c2; obtain rfl := Option.some.inj H; go_wp2
     go_ret
     exact ⟨xq7, xq3⟩
   rw [if_pos c2] at H; have N0 := decide_eq_true c2; clear c2; obtain ⟨J0, G0⟩ : ∃ j_ : Int, (IntKind.u64.wrap (W0)) = j_ := ⟨_, rfl⟩; replace H : (if 0 ≤ (J0) then (if a0 = (shl .i64 1 (J0)) then (some W0) else (spec_LogOf.l0 k1 a0 (wrap64 (W0 + 1)))) else (none)) = some r := by first | (rw [G0] at H; exact H) | (simp only [G0] at H ⊢; exact H)
   by_cases c4 : 0 ≤ (J0); rotate_left
   · rw [if_neg c4] at H; exact absurd H (by simp)
   rw [if_pos c4] at H; have N1 := eq_true c4; have N2 : decide (0 ≤ (J0)) = true := decide_eq_true c4; clear c4; obtain ⟨J1, G1⟩ : ∃ j_ : Int, (shl .i64 1 (J0)) = j_ := ⟨_, rfl⟩; replace H : (if a0 = (J1) then (some W0) else (spec_LogOf.l0 k1 a0 (wrap64 (W0 + 1)))) = some r := by first | (rw [G1] at H; exact H) | (simp only [G1] at H ⊢; exact H)
   have G2 : (IntKind.i64.wrap (1 * 2 ^ min (J0).toNat 64)) = J1 := G1; have hji5z : (J0) ≤ 64 → (IntKind.i64.wrap (1 * 2 ^ (J0).toNat)) = J1 := shl_small G1; have hji5u : (IntKind.i64.wrap (2 ^ min (J0).toNat 64)) = J1 := by have h_ := G2; rw [Int.one_mul] at h_; exact h_
   have hji5v : (J0) ≤ 64 → (IntKind.i64.wrap (2 ^ (J0).toNat)) = J1 := fun hle_ => by have h_ := hji5z hle_; rw [Int.one_mul] at h_; exact h_
   have hji5y : (wrap64 (1 * 2 ^ min (J0).toNat 64)) = J1 := (i64_w _).symm.trans G2; have hji5x : (J0) ≤ 64 → (wrap64 (1 * 2 ^ (J0).toNat)) = J1 := fun h_ => (i64_w _).symm.trans (hji5z h_)
   by_cases c6 : a0 = (J1)
   · rw [if_pos c6] at H; have N3 : (a0 == (J1)) = true := beq_iff_eq.mpr c6; have N4 : (a0 != (J1)) = false := bne_eq_false_iff_eq.mpr c6; clear c6; obtain rfl := Option.some.inj H; go_wp2
     go_ret
     exact ⟨xq119, xq3⟩
   rw [if_neg c6] at H; have N3 : (a0 == (J1)) = false := beq_eq_false_iff_ne.mpr c6; have N4 : (a0 != (J1)) = true := bne_iff_ne.mpr c6; have H' := ak H; clear H; go_wp2
   go_roundg k1
   case measure => have := n0.out; omega
   case rel => exact ⟨(wrap64 (W0 + 1)), eqA, H', ⟨xq16⟩, xq3⟩

end Go.Proofs.Ytbojabmpcfclhaa.PFnPlanTurned

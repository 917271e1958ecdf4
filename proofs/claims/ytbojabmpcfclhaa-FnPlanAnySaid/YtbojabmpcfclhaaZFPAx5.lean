-- Written by a program of this session (the print of the kit with contracts of this session's own added)
import Derived.Test.YtbojabmpcfclhaaZFPAx1
import Derived.Test.YtbojabmpcfclhaaZFPAx3
import Derived.Test.YtbojabmpcfclhaaZFPAx4
import Derived.Test.YtbojabmpcfclhaaZFPAV
import Derived.Test.YtbojabmpcfclhaaZFPAx2
namespace Go.Proofs.Ytbojabmpcfclhaa.PFnPlanAny
open Go.RowKit Go.Proofs.YtbojabmpcfclhaaW.PrintWords Go.Proofs.YtbojabmpcfclhaaW.PrintLast Go.Proofs.YtbojabmpcfclhaaW.PrintMore Go.Proofs.YtbojabmpcfclhaaW.PrintPack
attribute [local go_sem] max2_int min2_int max_two min_two max_three min_three max_four min_four   -- for this text's walks alone
set_option linter.unusedVariables false
set_option linter.unusedSimpArgs false

/-! ### spec_l01In: function 60 -/
def spec_l01In.f (a0 : Int) (a1 : Int) (a2 : Int) : Option (Bool) := if a1 ≤ a0 then (some (decide (a0 ≤ a2))) else (some false)
set_option maxHeartbeats 8000000 in
set_option maxRecDepth 100000 in
theorem spec_l01In.calls (a0 : Int) (a1 : Int) (a2 : Int) (r : Bool) (w : World) (h : spec_l01In.f a0 a1 a2 = some r) :
 Calls Try.prog 60 #[.int .i64 a0, .int .i64 a1, .int .i64 a2] w fun e w' => e = .returned (.bool r) ∧ Drawn0 w w' := by
 have H : (if a1 ≤ a0 then (some (decide (a0 ≤ a2))) else (some false)) = some r := h; clear h
 by_cases c4 : a1 ≤ a0
 · rw [if_pos c4] at H; have c4b0 := decide_eq_true c4; clear c4; obtain rfl := Option.some.inj H; go_enter Try.func60, Try.ntmps60
   go_wp2
   go_ret
   exact ⟨xq7, xq3⟩
 · rw [if_neg c4] at H; have c4b0 := decide_eq_false c4; clear c4; obtain rfl := Option.some.inj H; go_enter Try.func60, Try.ntmps60
   go_wp2
   go_ret
   exact ⟨xq7, xq3⟩

/-! ### spec_l01DrawElement: function 115 -/
def spec_l01DrawElement.f (s0_0 : List Int) (s0_1 : Int) (s0_2 : Int) (a1 : Int) : Option (Int × Int × Int) := (spec_Modulus.f a1).bind fun t202 => (if t202 = 0 then ((spec_l01Below.f s0_0 s0_1 s0_2 50).bind fun bt203 => (some (bt203.1, bt203.2.1, bt203.2.2))) else ((spec_l01Below.f s0_0 s0_1 s0_2 6).bind fun bt206 => (if bt206.1 = 0 then ((spec_l01Below.f s0_0 bt206.2.1 bt206.2.2 3).bind fun bt209 => (some (Int.tmod bt209.1 t202, bt209.2.1, bt209.2.2))) else (if bt206.1 = 1 then ((spec_l01Below.f s0_0 bt206.2.1 bt206.2.2 3).bind fun bt212 => (some (wrap64 ((wrap64 (t202 - 1)) - bt212.1), bt212.2.1, bt212.2.2))) else (if bt206.1 = 2 then ((spec_l01Below.f s0_0 bt206.2.1 bt206.2.2 16777216).bind fun bt215 => ((spec_l01Below.f s0_0 bt215.2.1 bt215.2.2 256).bind fun bt218 => (some (Int.tmod (wrap64 ((wrap64 (bt215.1 * 61)) + bt218.1)) t202, bt218.2.1, bt218.2.2)))) else ((spec_l01Below.f s0_0 bt206.2.1 bt206.2.2 30).bind fun bt221 => (some (Int.tmod bt221.1 t202, bt221.2.1, bt221.2.2))))))))
set_option maxHeartbeats 8000000 in
set_option maxRecDepth 100000 in
theorem spec_l01DrawElement.calls (g : Nat) (s0_0 : List Int) (s0_1 : Int) (s0_2 : Int) (a1 : Int) (r1 : Int) (r2 : Int) (r3 : Int) (w0 w : World) (hI : IsS129 w0 w g s0_0 s0_1 s0_2) (hB : Below w0.heap.size w0 w) (h : spec_l01DrawElement.f s0_0 s0_1 s0_2 a1 = some (r1, r2, r3)) :
 Calls Try.prog 115 #[.pointer (some ⟨g, 0, none⟩), .int .i64 a1] w fun e w' => e = .returned (.int .i64 r1) ∧ IsS129 w0 w' g s0_0 r2 r3 ∧ Below w0.heap.size w0 w' ∧ KeepBut w w' g none := by
 have HI0 := Aside0.mk hI; have HK := Aside0.mk (KeepBut.refl w g none); have HL := Aside0.mk hB.size; clear hI; have HW0 := Aside0.mk hB.size; have HB := Aside0.mk hB; clear hB; have H : ((spec_Modulus.f a1).bind fun t202 => (if t202 = 0 then ((spec_l01Below.f s0_0 s0_1 s0_2 50).bind fun bt203 => (some (bt203.1, bt203.2.1, bt203.2.2))) else ((spec_l01Below.f s0_0 s0_1 s0_2 6).bind fun bt206 => (if bt206.1 = 0 then ((spec_l01Below.f s0_0 bt206.2.1 bt206.2.2 3).bind fun bt209 => (some (Int.tmod bt209.1 t202, bt209.2.1, bt209.2.2))) else (if bt206.1 = 1 then ((spec_l01Below.f s0_0 bt206.2.1 bt206.2.2 3).bind fun bt212 => (some (wrap64 ((wrap64 (t202 - 1)) - bt212.1), bt212.2.1, bt212.2.2))) else (if bt206.1 = 2 then ((spec_l01Below.f s0_0 bt206.2.1 bt206.2.2 16777216).bind fun bt215 => ((spec_l01Below.f s0_0 bt215.2.1 bt215.2.2 256).bind fun bt218 => (some (Int.tmod (wrap64 ((wrap64 (bt215.1 * 61)) + bt218.1)) t202, bt218.2.1, bt218.2.2)))) else ((spec_l01Below.f s0_0 bt206.2.1 bt206.2.2 30).bind fun bt221 => (some (Int.tmod bt221.1 t202, bt221.2.1, bt221.2.2))))))))) = some (r1, r2, r3) := h; clear h; replace H := Option.bind_eq_some_iff.mp H; obtain ⟨t202, A30, H⟩ := H; replace H : (if t202 = 0 then ((spec_l01Below.f s0_0 s0_1 s0_2 50).bind fun bt203 => (some (bt203.1, bt203.2.1, bt203.2.2))) else ((spec_l01Below.f s0_0 s0_1 s0_2 6).bind fun bt206 => (if bt206.1 = 0 then ((spec_l01Below.f s0_0 bt206.2.1 bt206.2.2 3).bind fun bt209 => (some (Int.tmod bt209.1 t202, bt209.2.1, bt209.2.2))) else (if bt206.1 = 1 then ((spec_l01Below.f s0_0 bt206.2.1 bt206.2.2 3).bind fun bt212 => (some (wrap64 ((wrap64 (t202 - 1)) - bt212.1), bt212.2.1, bt212.2.2))) else (if bt206.1 = 2 then ((spec_l01Below.f s0_0 bt206.2.1 bt206.2.2 16777216).bind fun bt215 => ((spec_l01Below.f s0_0 bt215.2.1 bt215.2.2 256).bind fun bt218 => (some (Int.tmod (wrap64 ((wrap64 (bt215.1 * 61)) + bt218.1)) t202, bt218.2.1, bt218.2.2)))) else ((spec_l01Below.f s0_0 bt206.2.1 bt206.2.2 30).bind fun bt221 => (some (Int.tmod bt221.1 t202, bt221.2.1, bt221.2.2)))))))) = some (r1, r2, r3) := H
 have A3 := Aside0.mk A30; clear A30
 by_cases c4 : t202 = 0
 · rw [if_pos c4] at H; have c4b0 : (t202 == 0) = true := beq_iff_eq.mpr c4; have c4b1 : (t202 != 0) = false := bne_eq_false_iff_eq.mpr c4; clear c4; replace H := Option.bind_eq_some_iff.mp H; obtain ⟨⟨t203, t204, t205⟩, A50, H⟩ := H; replace H : (some (t203, t204, t205)) = some (r1, r2, r3) := H
   have A5 := Aside0.mk A50; clear A50; simp only [Option.some.injEq, Prod.mk.injEq] at H; obtain ⟨rfl, rfl, rfl⟩ := H; go_enter Try.func115, Try.ntmps115
   go_wp2_with (first | ((with_reducible refine gate_callee (f := 117) rfl ?_); refine goesL_ (some 7) rfl rfl Try.func117 (by kernel_rfl) rfl #[.int .i64 a1] rfl xq1 ?_; (with_reducible refine (spec_Modulus.calls a1 t202 _ A3.out).mono ?_); rintro e w' ⟨rfl, ⟨nd, rfl⟩⟩; refine ⟨_, rfl, ?_⟩) | ((with_reducible refine gate_callee (f := 111) rfl ?_); refine goesL_ (some 11) rfl rfl Try.func111 (by kernel_rfl) rfl #[.pointer (some ⟨g, 0, none⟩), .int .i64 50] rfl xq1 ?_; (with_reducible refine (spec_l01Below.calls g s0_0 s0_1 s0_2 50 t203 t204 t205 w0 _ ?side1 ?side2 A5.out).mono ?_); (case side1 => exact xq9); (case side2 => exact xq8); rintro e w6 ⟨rfl, hi, hb, hk⟩; refine ⟨_, rfl, ?_⟩; replace HK := Aside0.mk (KeepBut.trans kpA hk (.inl rfl)); replace HB := Aside0.mk hb; replace HI0 := Aside0.mk hi; (try clear hb); (try clear hb2); (try clear hk); (try clear hi)))
   go_ret
   exact ⟨xq2, xq9, xq8, xq13⟩
 · rw [if_neg c4] at H; have c4b0 : (t202 == 0) = false := beq_eq_false_iff_ne.mpr c4; have c4b1 : (t202 != 0) = true := bne_iff_ne.mpr c4; replace H := Option.bind_eq_some_iff.mp H; obtain ⟨⟨t206, t207, t208⟩, A70, H⟩ := H; replace H : (if t206 = 0 then ((spec_l01Below.f s0_0 t207 t208 3).bind fun bt209 => (some (Int.tmod bt209.1 t202, bt209.2.1, bt209.2.2))) else (if t206 = 1 then ((spec_l01Below.f s0_0 t207 t208 3).bind fun bt212 => (some (wrap64 ((wrap64 (t202 - 1)) - bt212.1), bt212.2.1, bt212.2.2))) else (if t206 = 2 then ((spec_l01Below.f s0_0 t207 t208 16777216).bind fun bt215 => ((spec_l01Below.f s0_0 bt215.2.1 bt215.2.2 256).bind fun bt218 => (some (Int.tmod (wrap64 ((wrap64 (bt215.1 * 61)) + bt218.1)) t202, bt218.2.1, bt218.2.2)))) else ((spec_l01Below.f s0_0 t207 t208 30).bind fun bt221 => (some (Int.tmod bt221.1 t202, bt221.2.1, bt221.2.2)))))) = some (r1, r2, r3) := H
   have A7 := Aside0.mk A70; clear A70
   by_cases c8 : t206 = 0
   · rw [if_pos c8] at H; have c8b0 : (t206 == 0) = true := beq_iff_eq.mpr c8; have c8b1 : (t206 != 0) = false := bne_eq_false_iff_eq.mpr c8; clear c8; replace H := Option.bind_eq_some_iff.mp H; obtain ⟨⟨t209, t210, t211⟩, A90, H⟩ := H; replace H : (some (Int.tmod t209 t202, t210, t211)) = some (r1, r2, r3) := H
     have A9 := Aside0.mk A90; clear A90; simp only [Option.some.injEq, Prod.mk.injEq] at H; obtain ⟨rfl, rfl, rfl⟩ := H; go_enter Try.func115, Try.ntmps115
     go_wp2_with (first | ((with_reducible refine gate_callee (f := 117) rfl ?_); refine goesL_ (some 7) rfl rfl Try.func117 (by kernel_rfl) rfl #[.int .i64 a1] rfl xq1 ?_; (with_reducible refine (spec_Modulus.calls a1 t202 _ A3.out).mono ?_); rintro e w' ⟨rfl, ⟨nd, rfl⟩⟩; refine ⟨_, rfl, ?_⟩) | ((with_reducible refine gate_callee (f := 111) rfl ?_); refine goesL_ (some 13) rfl rfl Try.func111 (by kernel_rfl) rfl #[.pointer (some ⟨g, 0, none⟩), .int .i64 6] rfl xq1 ?_; (with_reducible refine (spec_l01Below.calls g s0_0 s0_1 s0_2 6 t206 t207 t208 w0 _ ?side1 ?side2 A7.out).mono ?_); (case side1 => exact xq9); (case side2 => exact xq8); rintro e w10 ⟨rfl, hi, hb, hk⟩; refine ⟨_, rfl, ?_⟩; replace HK := Aside0.mk (KeepBut.trans kpA hk (.inl rfl)); replace HB := Aside0.mk hb; replace HI0 := Aside0.mk hi; (try clear hb); (try clear hb2); (try clear hk); (try clear hi)) | ((with_reducible refine gate_callee (f := 111) rfl ?_); refine goesL_ (some 17) rfl rfl Try.func111 (by kernel_rfl) rfl #[.pointer (some ⟨g, 0, none⟩), .int .i64 3] rfl xq1 ?_; (with_reducible refine (spec_l01Below.calls g s0_0 t207 t208 3 t209 t210 t211 w0 _ ?side1 ?side2 A9.out).mono ?_); (case side1 => exact xq9); (case side2 => exact xq8); rintro e w11 ⟨rfl, hi, hb, hk⟩; refine ⟨_, rfl, ?_⟩; replace HK := Aside0.mk (KeepBut.trans kpA hk (.inl rfl)); replace HB := Aside0.mk hb; replace HI0 := Aside0.mk hi; (try clear hb); (try clear hb2); (try clear hk); (try clear hi)))
     go_ret
     exact ⟨xq2, xq9, xq8, xq13⟩
   · rw [if_neg c8] at H; have c8b0 : (t206 == 0) = false := beq_eq_false_iff_ne.mpr c8; have c8b1 : (t206 != 0) = true := bne_iff_ne.mpr c8
     by_cases c12 : t206 = 1
     · rw [if_pos c12] at H; have c12b0 : (t206 == 1) = true := beq_iff_eq.mpr c12; have c12b1 : (t206 != 1) = false := bne_eq_false_iff_eq.mpr c12; clear c12; replace H := Option.bind_eq_some_iff.mp H; obtain ⟨⟨t212, t213, t214⟩, A130, H⟩ := H; replace H : (some (wrap64 ((wrap64 (t202 - 1)) - t212), t213, t214)) = some (r1, r2, r3) := H
       have A13 := Aside0.mk A130; clear A130; simp only [Option.some.injEq, Prod.mk.injEq] at H; obtain ⟨rfl, rfl, rfl⟩ := H; go_enter Try.func115, Try.ntmps115
       go_wp2_with (first | ((with_reducible refine gate_callee (f := 117) rfl ?_); refine goesL_ (some 7) rfl rfl Try.func117 (by kernel_rfl) rfl #[.int .i64 a1] rfl xq1 ?_; (with_reducible refine (spec_Modulus.calls a1 t202 _ A3.out).mono ?_); rintro e w' ⟨rfl, ⟨nd, rfl⟩⟩; refine ⟨_, rfl, ?_⟩) | ((with_reducible refine gate_callee (f := 111) rfl ?_); refine goesL_ (some 13) rfl rfl Try.func111 (by kernel_rfl) rfl #[.pointer (some ⟨g, 0, none⟩), .int .i64 6] rfl xq1 ?_; (with_reducible refine (spec_l01Below.calls g s0_0 s0_1 s0_2 6 t206 t207 t208 w0 _ ?side1 ?side2 A7.out).mono ?_); (case side1 => exact xq9); (case side2 => exact xq8); rintro e w14 ⟨rfl, hi, hb, hk⟩; refine ⟨_, rfl, ?_⟩; replace HK := Aside0.mk (KeepBut.trans kpA hk (.inl rfl)); replace HB := Aside0.mk hb; replace HI0 := Aside0.mk hi; (try clear hb); (try clear hb2); (try clear hk); (try clear hi)) | ((with_reducible refine gate_callee (f := 111) rfl ?_); refine goesL_ (some 25) rfl rfl Try.func111 (by kernel_rfl) rfl #[.pointer (some ⟨g, 0, none⟩), .int .i64 3] rfl xq1 ?_; (with_reducible refine (spec_l01Below.calls g s0_0 t207 t208 3 t212 t213 t214 w0 _ ?side1 ?side2 A13.out).mono ?_); (case side1 => exact xq9); (case side2 => exact xq8); rintro e w15 ⟨rfl, hi, hb, hk⟩; refine ⟨_, rfl, ?_⟩; replace HK := Aside0.mk (KeepBut.trans kpA hk (.inl rfl)); replace HB := Aside0.mk hb; replace HI0 := Aside0.mk hi; (try clear hb); (try clear hb2); (try clear hk); (try clear hi)))
       go_ret
       exact ⟨xq2, xq9, xq8, xq13⟩
     · rw [if_neg c12] at H; have c12b0 : (t206 == 1) = false := beq_eq_false_iff_ne.mpr c12; have c12b1 : (t206 != 1) = true := bne_iff_ne.mpr c12
       by_cases c16 : t206 = 2
       · rw [if_pos c16] at H; have c16b0 : (t206 == 2) = true := beq_iff_eq.mpr c16; have c16b1 : (t206 != 2) = false := bne_eq_false_iff_eq.mpr c16; clear c16; replace H := Option.bind_eq_some_iff.mp H; obtain ⟨⟨t215, t216, t217⟩, A170, H⟩ := H; replace H : ((spec_l01Below.f s0_0 t216 t217 256).bind fun bt218 => (some (Int.tmod (wrap64 ((wrap64 (t215 * 61)) + bt218.1)) t202, bt218.2.1, bt218.2.2))) = some (r1, r2, r3) := H
         have A17 := Aside0.mk A170; clear A170; replace H := Option.bind_eq_some_iff.mp H; obtain ⟨⟨t218, t219, t220⟩, A180, H⟩ := H; replace H : (some (Int.tmod (wrap64 ((wrap64 (t215 * 61)) + t218)) t202, t219, t220)) = some (r1, r2, r3) := H
         have A18 := Aside0.mk A180; clear A180; simp only [Option.some.injEq, Prod.mk.injEq] at H; obtain ⟨rfl, rfl, rfl⟩ := H; go_enter Try.func115, Try.ntmps115
         go_wp2_with (first | ((with_reducible refine gate_callee (f := 117) rfl ?_); refine goesL_ (some 7) rfl rfl Try.func117 (by kernel_rfl) rfl #[.int .i64 a1] rfl xq1 ?_; (with_reducible refine (spec_Modulus.calls a1 t202 _ A3.out).mono ?_); rintro e w' ⟨rfl, ⟨nd, rfl⟩⟩; refine ⟨_, rfl, ?_⟩) | ((with_reducible refine gate_callee (f := 111) rfl ?_); refine goesL_ (some 13) rfl rfl Try.func111 (by kernel_rfl) rfl #[.pointer (some ⟨g, 0, none⟩), .int .i64 6] rfl xq1 ?_; (with_reducible refine (spec_l01Below.calls g s0_0 s0_1 s0_2 6 t206 t207 t208 w0 _ ?side1 ?side2 A7.out).mono ?_); (case side1 => exact xq9); (case side2 => exact xq8); rintro e w19 ⟨rfl, hi, hb, hk⟩; refine ⟨_, rfl, ?_⟩; replace HK := Aside0.mk (KeepBut.trans kpA hk (.inl rfl)); replace HB := Aside0.mk hb; replace HI0 := Aside0.mk hi; (try clear hb); (try clear hb2); (try clear hk); (try clear hi)) | ((with_reducible refine gate_callee (f := 111) rfl ?_); refine goesL_ (some 30) rfl rfl Try.func111 (by kernel_rfl) rfl #[.pointer (some ⟨g, 0, none⟩), .int .i64 16777216] rfl xq1 ?_; (with_reducible refine (spec_l01Below.calls g s0_0 t207 t208 16777216 t215 t216 t217 w0 _ ?side1 ?side2 A17.out).mono ?_); (case side1 => exact xq9); (case side2 => exact xq8); rintro e w20 ⟨rfl, hi, hb, hk⟩; refine ⟨_, rfl, ?_⟩; replace HK := Aside0.mk (KeepBut.trans kpA hk (.inl rfl)); replace HB := Aside0.mk hb; replace HI0 := Aside0.mk hi; (try clear hb); (try clear hb2); (try clear hk); (try clear hi)) | ((with_reducible refine gate_callee (f := 111) rfl ?_); refine goesL_ (some 33) rfl rfl Try.func111 (by kernel_rfl) rfl #[.pointer (some ⟨g, 0, none⟩), .int .i64 256] rfl xq1 ?_; (with_reducible refine (spec_l01Below.calls g s0_0 t216 t217 256 t218 t219 t220 w0 _ ?side1 ?side2 A18.out).mono ?_); (case side1 => exact xq9); (case side2 => exact xq8); rintro e w21 ⟨rfl, hi, hb, hk⟩; refine ⟨_, rfl, ?_⟩; replace HK := Aside0.mk (KeepBut.trans kpA hk (.inl rfl)); replace HB := Aside0.mk hb; replace HI0 := Aside0.mk hi; (try clear hb); (try clear hb2); (try clear hk); (try clear hi)))
         go_ret
         exact ⟨xq2, xq9, xq8, xq13⟩
       · rw [if_neg c16] at H; have c16b0 : (t206 == 2) = false := beq_eq_false_iff_ne.mpr c16; have c16b1 : (t206 != 2) = true := bne_iff_ne.mpr c16; replace H := Option.bind_eq_some_iff.mp H; obtain ⟨⟨t221, t222, t223⟩, A220, H⟩ := H; replace H : (some (Int.tmod t221 t202, t222, t223)) = some (r1, r2, r3) := H
         have A22 := Aside0.mk A220; clear A220; simp only [Option.some.injEq, Prod.mk.injEq] at H; obtain ⟨rfl, rfl, rfl⟩ := H; go_enter Try.func115, Try.ntmps115
         go_wp2_with (first | ((with_reducible refine gate_callee (f := 117) rfl ?_); refine goesL_ (some 7) rfl rfl Try.func117 (by kernel_rfl) rfl #[.int .i64 a1] rfl xq1 ?_; (with_reducible refine (spec_Modulus.calls a1 t202 _ A3.out).mono ?_); rintro e w' ⟨rfl, ⟨nd, rfl⟩⟩; refine ⟨_, rfl, ?_⟩) | ((with_reducible refine gate_callee (f := 111) rfl ?_); refine goesL_ (some 13) rfl rfl Try.func111 (by kernel_rfl) rfl #[.pointer (some ⟨g, 0, none⟩), .int .i64 6] rfl xq1 ?_; (with_reducible refine (spec_l01Below.calls g s0_0 s0_1 s0_2 6 t206 t207 t208 w0 _ ?side1 ?side2 A7.out).mono ?_); (case side1 => exact xq9); (case side2 => exact xq8); rintro e w23 ⟨rfl, hi, hb, hk⟩; refine ⟨_, rfl, ?_⟩; replace HK := Aside0.mk (KeepBut.trans kpA hk (.inl rfl)); replace HB := Aside0.mk hb; replace HI0 := Aside0.mk hi; (try clear hb); (try clear hb2); (try clear hk); (try clear hi)) | ((with_reducible refine gate_callee (f := 111) rfl ?_); refine goesL_ (some 38) rfl rfl Try.func111 (by kernel_rfl) rfl #[.pointer (some ⟨g, 0, none⟩), .int .i64 30] rfl xq1 ?_; (with_reducible refine (spec_l01Below.calls g s0_0 t207 t208 30 t221 t222 t223 w0 _ ?side1 ?side2 A22.out).mono ?_); (case side1 => exact xq9); (case side2 => exact xq8); rintro e w24 ⟨rfl, hi, hb, hk⟩; refine ⟨_, rfl, ?_⟩; replace HK := Aside0.mk (KeepBut.trans kpA hk (.inl rfl)); replace HB := Aside0.mk hb; replace HI0 := Aside0.mk hi; (try clear hb); (try clear hb2); (try clear hk); (try clear hi)))
         go_ret
         exact ⟨xq2, xq9, xq8, xq13⟩

/-! ### spec_l01DrawList: function 62 -/
def spec_l01DrawList.l0 : Nat → Int → Int → List Int → Int → List Int → Int → Int → Option (List Int × Int × Int)
 | 0, _, _, _, _, _, _, _ => none
 | k + 1, x1, x2, x7, x8, x1000, x1001, x1002 => if x8 < x2 then ((spec_l01DrawElement.f x1000 x1001 x1002 x1).bind fun bt227 => (if x7.length < 17592186044416 then (spec_l01DrawList.l0 k x1 x2 (x7 ++ [bt227.1]) (wrap64 (x8 + 1)) x1000 bt227.2.1 bt227.2.2) else (none))) else (some (x7, x1001, x1002))
def spec_l01DrawList.f (k : Nat) (s0_0 : List Int) (s0_1 : Int) (s0_2 : Int) (a1 : Int) (a2 : Int) : Option (List Int × Int × Int) := spec_l01DrawList.l0 k a1 a2 (([] : List Int)) 0 s0_0 s0_1 s0_2
theorem spec_l01DrawList.mono_l : ∀ k, (∀ y0 y1 y2 y3 y4 y5 y6, LeO (spec_l01DrawList.l0 k y0 y1 y2 y3 y4 y5 y6) (spec_l01DrawList.l0 (k + 1) y0 y1 y2 y3 y4 y5 y6))
 | 0 => fun _ _ _ _ _ _ _ r h => by simp [spec_l01DrawList.l0] at h
 | k + 1 => by
  have ih0 := spec_l01DrawList.mono_l k
  · intro y0 y1 y2 y3 y4 y5 y6
    unfold spec_l01DrawList.l0
    repeat' first
    | (with_reducible exact ih0 _ _ _ _ _ _ _)
    | (with_reducible exact LeO.refl _)
    | (with_reducible exact LeO.none _)
    | (with_reducible refine LeO.ite ?_ ?_)
    | (with_reducible refine LeO.bind ?_ (fun _ => ?_))
    | exact ih0 _ _ _ _ _ _ _
    | exact LeO.none _
    | refine LeO.ite ?_ ?_
    | refine LeO.bind ?_ (fun _ => ?_)
theorem spec_l01DrawList.mono : ∀ a0 a1 a2 a3 a4 k, LeO (spec_l01DrawList.f k a0 a1 a2 a3 a4) (spec_l01DrawList.f (k + 1) a0 a1 a2 a3 a4) := by
 intro a0 a1 a2 a3 a4 k; have ih0 := spec_l01DrawList.mono_l k
 unfold spec_l01DrawList.f
 repeat' first
  | (with_reducible exact ih0 _ _ _ _ _ _ _)
  | (with_reducible exact LeO.refl _)
  | (with_reducible exact LeO.none _)
  | (with_reducible refine LeO.ite ?_ ?_)
  | (with_reducible refine LeO.bind ?_ (fun _ => ?_))
  | exact ih0 _ _ _ _ _ _ _
  | exact LeO.none _
  | refine LeO.ite ?_ ?_
  | refine LeO.bind ?_ (fun _ => ?_)
set_option maxHeartbeats 8000000 in
set_option maxRecDepth 100000 in
theorem spec_l01DrawList.calls (k : Nat) (g : Nat) (s0_0 : List Int) (s0_1 : Int) (s0_2 : Int) (a1 : Int) (a2 : Int) (r1 : List Int) (r2 : Int) (r3 : Int) (w0 w : World) (hI : IsS129 w0 w g s0_0 s0_1 s0_2) (hB : Below w0.heap.size w0 w) (h : spec_l01DrawList.f k s0_0 s0_1 s0_2 a1 a2 = some (r1, r2, r3)) :
 Calls Try.prog 62 #[.pointer (some ⟨g, 0, none⟩), .int .i64 a1, .int .i64 a2] w fun e w' => ∃ v0_ : Value, e = .returned (v0_) ∧ Kd.R (Kd.int .i64) 3 w' w.heap.size (fun _ => True) v0_ r1 ∧ IsS129 w0 w' g s0_0 r2 r3 ∧ Below w0.heap.size w0 w' ∧ KeepBut w w' g none := by
 have HI0 := Aside0.mk hI; have HK := Aside0.mk (KeepBut.refl w g none); have HL := Aside0.mk hB.size; clear hI; have HW0 := Aside0.mk hB.size; have HB := Aside0.mk hB; clear hB; have H : (spec_l01DrawList.l0 k a1 a2 (([] : List Int)) 0 s0_0 s0_1 s0_2) = some (r1, r2, r3) := h; clear h; obtain ⟨y224, hy224⟩ : ∃ y_ : List Int, y_ = (([] : List Int)) := ⟨_, rfl⟩; replace H : (spec_l01DrawList.l0 k a1 a2 y224 0 s0_0 s0_1 s0_2) = some (r1, r2, r3) := by first | (rw [hy224]; with_reducible exact H) | (have H2_ := (Option.bind_some _ _).symm.trans H; rw [hy224]; with_reducible exact H2_) | (have H2_ := (Option.bind_some _ _).symm.trans H; with_reducible exact H2_) | with_reducible exact H | (rw [hy224]; exact H) | exact H
 have Ny224 := Aside0.mk hy224; clear hy224; have H' := Aside0.mk H; clear H; go_enter Try.func62, Try.ntmps62
 go_wp2_with (first | ((with_reducible refine gate_dst (N := 9) rfl ?_); refine Kd.R_lit (Kd.int .i64) _ 3 ?hg (N := 9) ?hd (xs := ([] : List Int)) (inner := []) (ok := fun _ => True) (okp := fun _ => True) ?hr ?hp (fun _ hk => hk) trivial (Below.refl _ _) (Nat.le_refl _) (by simp) ?_; (case hd => rfl); (case hg => rfl); (case hr => exact xq10); (case hp => exact (Reps.none _ _)); intro v225 w4 ho5 hb hg_ hnew_; clear hg_ hnew_; (first | rw [← Ny224.out] at ho5 | (simp only [Int.reduceToNat] at ho5; rw [← Ny224.out] at ho5)); have HO226 := Aside0.mk (Kd.R_lower ho5 (keep_size (w := w) (g := g) (row := none) kpA)); replace HK := Aside0.mk (KeepBut.trans kpA (KeepBut.of_below hb g none) (.inl rfl)); replace HB := Aside0.mk (below_step xq8 hb); replace HI0 := Aside0.mk (IsS129.below xq9 hb); clear hb ho5))
 go_loopg [7, 8] k (fun kq v7 v8 w' => ∃ (x7_1 : List Int) (x8_1 : Int) (x1001_1 : Int) (x1002_1 : Int), v8 = .int .i64 x8_1 ∧ Aside0 (spec_l01DrawList.l0 kq a1 a2 x7_1 x8_1 s0_0 x1001_1 x1002_1 = some (r1, r2, r3)) ∧ Aside0 (kq ≤ k) ∧ Aside0 (Kd.R (Kd.int .i64) 3 w' w.heap.size (fun _ => True) v7 x7_1) ∧ Aside0 (IsS129 w0 w' g s0_0 x1001_1 x1002_1) ∧ Aside0 (KeepBut w w' g none) ∧ Aside0 (Below w0.heap.size w0 w'))
 case atStart => exact ⟨(y224), (0), (s0_1), (s0_2), eqA, H', ⟨Nat.le_refl _⟩, ⟨rA HO226⟩, ⟨xq9⟩, ⟨kpA⟩, ⟨xq8⟩⟩
 case round =>
  clear H'; obtain ⟨x7_1, x8_1, x1001_1, x1002_1, rfl, HA, HK1, HO_7, HI0, HK, HB⟩ := hrel
  cases gk with
  | zero => exact absurd HA.out (by simp [spec_l01DrawList.l0])
  | succ k1 =>
   have H := HA.out; clear HA; simp only [spec_l01DrawList.l0] at H
   by_cases c6 : x8_1 < a2
   · rw [if_pos c6] at H; have c6b0 := decide_eq_true c6; clear c6; replace H := Option.bind_eq_some_iff.mp H; obtain ⟨⟨t227, t228, t229⟩, A70, H⟩ := H; replace H : (if x7_1.length < 17592186044416 then (spec_l01DrawList.l0 k1 a1 a2 (x7_1 ++ [t227]) (wrap64 (x8_1 + 1)) s0_0 t228 t229) else (none)) = some (r1, r2, r3) := H
     have A7 := Aside0.mk A70; clear A70
     by_cases c8 : x7_1.length < 17592186044416
     · rw [if_pos c8] at H; have LMc8 := Aside0.mk c8; clear c8; obtain ⟨y230, hy230⟩ : ∃ y_ : List Int, y_ = (x7_1 ++ [t227]) := ⟨_, rfl⟩; replace H : (spec_l01DrawList.l0 k1 a1 a2 y230 (wrap64 (x8_1 + 1)) s0_0 t228 t229) = some (r1, r2, r3) := by first | (rw [hy230]; with_reducible exact H) | (have H2_ := (Option.bind_some _ _).symm.trans H; rw [hy230]; with_reducible exact H2_) | (have H2_ := (Option.bind_some _ _).symm.trans H; with_reducible exact H2_) | with_reducible exact H | (rw [hy230]; exact H) | exact H
       have Ny230 := Aside0.mk hy230; clear hy230; have H' := Aside0.mk H; clear H; go_wp2_with (first | ((with_reducible refine gate_callee (f := 115) rfl ?_); refine goesL_ (some 18) rfl rfl Try.func115 (by kernel_rfl) rfl #[.pointer (some ⟨g, 0, none⟩), .int .i64 a1] rfl xq1 ?_; (with_reducible refine (spec_l01DrawElement.calls g s0_0 x1001_1 x1002_1 a1 t227 t228 t229 w0 _ ?side1 ?side2 A7.out).mono ?_); (case side1 => exact xq9); (case side2 => exact xq8); rintro e w9 ⟨rfl, hi, hb, hk⟩; refine ⟨_, rfl, ?_⟩; replace HO_7 := Aside0.mk (Kd.R_mono (Kd.R_keep (IsS129.apart (show IsS129 w0 _ g s0_0 x1001_1 x1002_1 from by repeat (first | (with_reducible first | exact HI0.out | apply IsS129.alloc | apply IsS129.drewN | apply IsS129.drew | apply IsS129.set_1 | apply IsS129.set_2) | exact HI0.out)) (rA HO_7) (by decide)) hk (fun _ h => h.2)) (fun _ h => h.1)); replace HK := Aside0.mk (KeepBut.trans kpA hk (.inl rfl)); replace HB := Aside0.mk hb; replace HI0 := Aside0.mk hi; (try clear hb); (try clear hb2); (try clear hk); (try clear hi)) | ((with_reducible refine gate_builtin (b := .append) (xs := #[.tmp 15, .tmp 19]) rfl ?_); at_builtin; refine Kd.R_append (Kd.int .i64) w.heap.size rfl (.tmp 15) (.tmp 19) 27 3 (.int .i64 0) 8 rfl Try.underlying27 info3 rfl (by decide) (by omega) u7 x7_1 t227 [.int .i64 t227] (fun _ => True) (fun _ => False) rfl rfl ?aP (fun _ hk => hk.elim) ?aF ?aO (Below.refl _ _) ?aS ?aL ?_; (case aP => exact rfl); (case aF => exact (fun _ _ => trivial)); (case aO => exact (rA HO_7)); (case aS => exact (keep_size (w := w) (g := g) (row := none) kpA)); (case aL => have := LMc8.out; omega); intro v231 w10 ho hb hg hat; rw [← Ny230.out] at ho; have HO232 := Aside0.mk ho; replace HB := Aside0.mk (below_weaken xq8 HL.out hb); replace HI0 := Aside0.mk (IsS129.grown (by first | exact HI0.out | (repeat (first | (with_reducible first | exact HI0.out | apply IsS129.alloc | apply IsS129.drewN | apply IsS129.drew | apply IsS129.set_1 | apply IsS129.set_2) | exact HI0.out))) hg (IsS129.own_ne HI0.out HO_7.out (by decide))); replace HK := Aside0.mk (KeepBut.trans kpA (KeepBut.of_grown hg g) (Kd.R_base2 HO_7.out)); clear HO_7; clear ho hb hg hat))
       go_roundg k1
       case measure => have := HK1.out; omega
       case rel => exact ⟨(y230), (wrap64 (x8_1 + 1)), (t228), (t229), eqA, H', ⟨xq12⟩, ⟨rA HO232⟩, ⟨xq9⟩, ⟨kpA⟩, ⟨xq8⟩⟩
     · rw [if_neg c8] at H; exact absurd H (by simp)
   · rw [if_neg c6] at H; have c6b0 := decide_eq_false c6; clear c6; simp only [Option.some.injEq, Prod.mk.injEq] at H; obtain ⟨rfl, rfl, rfl⟩ := H; go_wp2
     go_ret
     exact ⟨_, xq2, xq64, xq9, xq8, xq13⟩

/-! ### spec_DrawRunPlan: function 10 -/
def spec_DrawRunPlan.j0 : Nat → Int → List Int → Int → Int → Int → Int → List (S36) → Option (Int × Int × (List (S36)) × List Int)
 | 0, _, _, _, _, _, _, _ => none
 | k + 1, x6, x238000, x238001, x238002, x246000, x246001, x246002 => (spec_l01Once.f x238000 x238001 x238002 12).bind fun bt247 => (if bt247.1 = true then ((spec_l01DrawList.f k x238000 bt247.2.1 bt247.2.2 x246000 (wrap64 (2 * x6))).bind fun bt250 => (some (x246000, x246001, x246002, bt250.1))) else ((spec_l01DrawList.f k x238000 bt247.2.1 bt247.2.2 x246000 x6).bind fun bt255 => (some (x246000, x246001, x246002, bt255.1))))
def spec_DrawRunPlan.f (k : Nat) (l0 : List Int) : Option (Int × Int × (List (S36)) × List Int) := (spec_l01New.f k l0).bind fun bt234 => ((spec_l09DrawPlan.f k bt234.1 bt234.2.1 bt234.2.2 l0).bind fun bt238 => ((spec_l01In.f bt238.2.1 0 9).bind fun t246 => (if t246 = true then (if 0 ≤ (IntKind.u64.wrap (bt238.2.1)) then (spec_DrawRunPlan.j0 k (shl .i64 1 (IntKind.u64.wrap (bt238.2.1))) bt234.1 bt238.2.2.2.1 bt238.2.2.2.2 bt238.1 bt238.2.1 bt238.2.2.1) else (none)) else (spec_DrawRunPlan.j0 k 1 bt234.1 bt238.2.2.2.1 bt238.2.2.2.2 bt238.1 bt238.2.1 bt238.2.2.1))))
theorem spec_DrawRunPlan.mono_l : ∀ k, (∀ y0 y1 y2 y3 y4 y5 y6, LeO (spec_DrawRunPlan.j0 k y0 y1 y2 y3 y4 y5 y6) (spec_DrawRunPlan.j0 (k + 1) y0 y1 y2 y3 y4 y5 y6))
 | 0 => fun _ _ _ _ _ _ _ r h => by simp [spec_DrawRunPlan.j0] at h
 | k + 1 => by
  have ih0 := spec_DrawRunPlan.mono_l k
  · intro y0 y1 y2 y3 y4 y5 y6
    unfold spec_DrawRunPlan.j0
    repeat' first
    | (with_reducible exact ih0 _ _ _ _ _ _ _)
    | (with_reducible exact spec_l01DrawList.mono _ _ _ _ _ _)
    | (with_reducible exact spec_l01New.mono _ _)
    | (with_reducible exact spec_l09DrawPlan.mono _ _ _ _ _)
    | (with_reducible exact LeO.refl _)
    | (with_reducible exact LeO.none _)
    | (with_reducible refine LeO.ite ?_ ?_)
    | (with_reducible refine LeO.bind ?_ (fun _ => ?_))
    | exact ih0 _ _ _ _ _ _ _
    | exact spec_l01DrawList.mono _ _ _ _ _ _
    | exact spec_l01New.mono _ _
    | exact spec_l09DrawPlan.mono _ _ _ _ _
    | exact LeO.none _
    | refine LeO.ite ?_ ?_
    | refine LeO.bind ?_ (fun _ => ?_)
theorem spec_DrawRunPlan.mono : ∀ a0 k, LeO (spec_DrawRunPlan.f k a0) (spec_DrawRunPlan.f (k + 1) a0) := by
 intro a0 k; have ih0 := spec_DrawRunPlan.mono_l k
 unfold spec_DrawRunPlan.f
 repeat' first
  | (with_reducible exact ih0 _ _ _ _ _ _ _)
  | (with_reducible exact spec_l01DrawList.mono _ _ _ _ _ _)
  | (with_reducible exact spec_l01New.mono _ _)
  | (with_reducible exact spec_l09DrawPlan.mono _ _ _ _ _)
  | (with_reducible exact LeO.refl _)
  | (with_reducible exact LeO.none _)
  | (with_reducible refine LeO.ite ?_ ?_)
  | (with_reducible refine LeO.bind ?_ (fun _ => ?_))
  | exact ih0 _ _ _ _ _ _ _
  | exact spec_l01DrawList.mono _ _ _ _ _ _
  | exact spec_l01New.mono _ _
  | exact spec_l09DrawPlan.mono _ _ _ _ _
  | exact LeO.none _
  | refine LeO.ite ?_ ?_
  | refine LeO.bind ?_ (fun _ => ?_)
def spec_DrawRunPlan.T8 : Bool × List (List Nat × List Nat) := (true, [([], []), ([], []), ([], []), ([2], [2]), ([], []), ([1, 3, 4], [1, 3, 4]), ([0, 5, 0], [0]), ([5, 6, 0, 1, 2, 3, 4, 5, 6], [5])])
def spec_DrawRunPlan.B8 : List Nat := [0, 0, 0, 4, 0, 30, 63, 127]
theorem spec_DrawRunPlan.tab8 : rtab .any (opsOf Try.f10 8) = spec_DrawRunPlan.T8 := by kernel_rfl
theorem spec_DrawRunPlan.bits8 : waitsOk spec_DrawRunPlan.T8.2 spec_DrawRunPlan.B8 = true := by kernel_rfl
set_option maxHeartbeats 8000000 in
set_option maxRecDepth 100000 in
theorem spec_DrawRunPlan.calls (k : Nat) (A0 : Option Addr) (c0 : Nat) (l0 : List Int) (r1 : Int) (r2 : Int) (r3 : List (S36)) (r4 : List Int) (w : World) (hr0 : Kd.C (Kd.int .u8) w A0 l0.length l0) (hc0 : l0.length ≤ c0) (h : spec_DrawRunPlan.f k l0 = some (r1, r2, r3, r4)) :
 Calls Try.prog 10 #[.slice A0 l0.length c0] w fun e w' => ∃ v2_ v3_ : Value, e = .returned (.tuple #[.agg #[.int .i64 r1, .int .i64 r2, v2_], v3_]) ∧ Kd.Q k36 36 w' w.heap.size (fun _ => True) v2_ r3 ∧ Kd.R (Kd.int .i64) 3 w' w.heap.size (fun _ => True) v3_ r4 ∧ Below w.heap.size w w' := by
 have hu26 := Try.underlying26; have HR0 := Aside0.mk hr0; have HC0 := Aside0.mk hc0; clear hr0 hc0; have HB := Aside0.mk (Below.refl w.heap.size w); have H : ((spec_l01New.f k l0).bind fun bt234 => ((spec_l09DrawPlan.f k bt234.1 bt234.2.1 bt234.2.2 l0).bind fun bt238 => ((spec_l01In.f bt238.2.1 0 9).bind fun t246 => (if t246 = true then (if 0 ≤ (IntKind.u64.wrap (bt238.2.1)) then (spec_DrawRunPlan.j0 k (shl .i64 1 (IntKind.u64.wrap (bt238.2.1))) bt234.1 bt238.2.2.2.1 bt238.2.2.2.2 bt238.1 bt238.2.1 bt238.2.2.1) else (none)) else (spec_DrawRunPlan.j0 k 1 bt234.1 bt238.2.2.2.1 bt238.2.2.2.2 bt238.1 bt238.2.1 bt238.2.2.1))))) = some (r1, r2, r3, r4) := h; clear h; replace H := Option.bind_eq_some_iff.mp H; obtain ⟨⟨t234, t235, t236⟩, A20, H⟩ := H; replace H : ((spec_l09DrawPlan.f k t234 t235 t236 l0).bind fun bt238 => ((spec_l01In.f bt238.2.1 0 9).bind fun t246 => (if t246 = true then (if 0 ≤ (IntKind.u64.wrap (bt238.2.1)) then (spec_DrawRunPlan.j0 k (shl .i64 1 (IntKind.u64.wrap (bt238.2.1))) t234 bt238.2.2.2.1 bt238.2.2.2.2 bt238.1 bt238.2.1 bt238.2.2.1) else (none)) else (spec_DrawRunPlan.j0 k 1 t234 bt238.2.2.2.1 bt238.2.2.2.2 bt238.1 bt238.2.1 bt238.2.2.1)))) = some (r1, r2, r3, r4) := H
 have A2 := Aside0.mk A20; clear A20; replace H := Option.bind_eq_some_iff.mp H; obtain ⟨⟨t238, t239, t240, t243, t244⟩, A30, H⟩ := H; replace H : ((spec_l01In.f t239 0 9).bind fun t246 => (if t246 = true then (if 0 ≤ (IntKind.u64.wrap (t239)) then (spec_DrawRunPlan.j0 k (shl .i64 1 (IntKind.u64.wrap (t239))) t234 t243 t244 t238 t239 t240) else (none)) else (spec_DrawRunPlan.j0 k 1 t234 t243 t244 t238 t239 t240))) = some (r1, r2, r3, r4) := H
 have A3 := Aside0.mk A30; clear A30; replace H := Option.bind_eq_some_iff.mp H; obtain ⟨t246, A40, H⟩ := H; replace H : (if t246 = true then (if 0 ≤ (IntKind.u64.wrap (t239)) then (spec_DrawRunPlan.j0 k (shl .i64 1 (IntKind.u64.wrap (t239))) t234 t243 t244 t238 t239 t240) else (none)) else (spec_DrawRunPlan.j0 k 1 t234 t243 t244 t238 t239 t240)) = some (r1, r2, r3, r4) := H
 have A4 := Aside0.mk A40; clear A40; have HC5 := Aside0.mk H; clear H; go_enter Try.func10, Try.ntmps10
 go_upto_if 14 with (first | ((with_reducible refine gate_dst (N := 2) rfl ?_); refine boxA 2 #[.int .i64 0, .int .i64 0, .slice none 0 0] 26 ?_; intro gb233 hg w6 hbox hb; have BK233 := Aside0.mk hbox; have GW233 := leA (w := w) hg; have GE233 := leA (w := w) hg; replace HB := bS hb; clear hb hbox hg) | ((with_reducible refine gate_callee (f := 58) rfl ?_); refine goesL_ (some 8) rfl rfl Try.func58 (by kernel_rfl) rfl #[.slice A0 l0.length c0] rfl xq1 ?_; (with_reducible refine (spec_l01New.calls k _ _ l0 t234 t235 t236 w _ ?side1 ?side2 ?side3 A2.out).mono ?_); (case side1 => repeat (first | (with_reducible first | exact HB.out | apply below_alloc | apply pw_below_drewN | apply below_drew1 | refine below_set ?_ GE233.out) | exact HB.out)); (case side2 => exact HR0.out); (case side3 => exact HC0.out); rintro e w7 ⟨g237, rfl, hi, hb, hb2⟩; refine ⟨_, rfl, ?_⟩; have HI237 := Aside0.mk hi; have NB237_233 := Aside0.mk (IsS129.ne_blk hi (blk_below (g := gb233) (o := .cells #[.int .i64 0, .int .i64 0, .slice none 0 0] 26 (0, 0)) blkA hb2) (by decide)); have NB233_237 := Aside0.mk (Ne.symm (IsS129.ne_blk hi (blk_below (g := gb233) (o := .cells #[.int .i64 0, .int .i64 0, .slice none 0 0] 26 (0, 0)) blkA hb2) (by decide))); replace BK233 := Aside0.mk (blk_below (g := gb233) (o := .cells #[.int .i64 0, .int .i64 0, .slice none 0 0] 26 (0, 0)) blkA hb2); replace HB := Aside0.mk hb; (try clear hb); (try clear hb2); (try clear hk); (try clear hi)) | ((with_reducible refine gate_callee (f := 59) rfl ?_); refine goesL_ (some 11) rfl rfl Try.func59 (by kernel_rfl) rfl #[.pointer (some ⟨g237, 0, none⟩), .slice A0 l0.length c0] rfl xq1 ?_; (with_reducible refine (spec_l09DrawPlan.calls k g237 t234 t235 t236 _ _ l0 t238 t239 t240 t243 t244 w _ ?side1 ?side2 ?side3 ?side4 ?side5 A3.out).mono ?_); (case side1 => exact xq65); (case side2 => exact xq25); (case side3 => exact cA (Kd.C_below HR0.out HB.out)); (case side4 => exact HC0.out); (case side5 => exact Kd.far_C 0 HR0.out (IsS129.ge HI237.out)); rintro e w8 ⟨v241, rfl, ho0, hi, hb, hk⟩; refine ⟨_, rfl, ?_⟩; have HO242 := Aside0.mk (Kd.Q_lower ho0 (below_size xq25)); replace BK233 := Aside0.mk (KeepBut.blk hk (g' := gb233) (o := .cells #[.int .i64 0, .int .i64 0, .slice none 0 0] 26 (0, 0)) blkA NB233_237.out (by simp)); replace HB := Aside0.mk hb; replace HI237 := Aside0.mk hi; (try clear hb); (try clear hb2); (try clear hk); (try clear hi); (try clear ho0)) | ((with_reducible refine gate_dst (N := 5) rfl ?_); refine boxA 5 #[.int .i64 0, .int .i64 0, .slice none 0 0] 26 ?_; intro gb245 hg w9 hbox hb; have BK245 := Aside0.mk hbox; have GW245 := Aside0.mk ((by rw [hg]; exact (below_size xq25) : w.heap.size ≤ gb245)); have GE245 := Aside0.mk ((by rw [hg]; exact (below_size xq25) : w.heap.size ≤ gb245)); have NB233_245 := neL hg BK233; have NB245_233 := neG hg BK233; have NB237_245 := Aside0.mk ((by rw [hg]; exact Nat.ne_of_lt (IsS129.lt (show IsS129 w _ g237 t234 t243 t244 from by repeat (first | (with_reducible first | exact HI237.out | apply IsS129.alloc | apply IsS129.drewN | apply IsS129.drew | apply IsS129.set_1 | apply IsS129.set_2 | refine IsS129.far ?_ NB237_233.out _) | exact HI237.out))) : g237 ≠ gb245)); have NB245_237 := Aside0.mk ((by rw [hg]; exact Nat.ne_of_gt (IsS129.lt (show IsS129 w _ g237 t234 t243 t244 from by repeat (first | (with_reducible first | exact HI237.out | apply IsS129.alloc | apply IsS129.drewN | apply IsS129.drew | apply IsS129.set_1 | apply IsS129.set_2 | refine IsS129.far ?_ NB237_233.out _) | exact HI237.out))) : gb245 ≠ g237)); replace HO242 := qB HO242 hb; replace BK233 := bB BK233 hb; replace HB := Aside0.mk (below_step xq25 hb); replace HI237 := Aside0.mk (IsS129.below xq65 hb); clear hb hbox hg; have hnb10 := NB245_233.out; have hnc10 := NB233_245.out; have hnb11 := NB245_237.out; have hnc11 := NB237_245.out; obtain ⟨hcz12_0, hcz12_1, hcz12_2, hfz12_0, hfz12_1, hfz12_2⟩ := cel3 BK245; obtain ⟨Ao13, co13, eo13, _⟩ := Kd.Q_slice HO242.out; subst eo13) | ((with_reducible refine gate_callee (f := 60) rfl ?_); refine goesL_ (some 14) rfl rfl Try.func60 (by kernel_rfl) rfl #[.int .i64 t239, .int .i64 0, .int .i64 9] rfl xq1 ?_; (with_reducible refine (spec_l01In.calls t239 0 9 t246 _ A4.out).mono ?_); rintro e w' ⟨rfl, ⟨nd, rfl⟩⟩; refine ⟨_, rfl, ?_⟩))
 (try simp only [Act.put, sa, sb, sc])
 go_cut [6] (fun v6 wc => ∃ (kq : Nat) (x6_4 : Int), v6 = .int .i64 x6_4 ∧ Aside0 (spec_DrawRunPlan.j0 kq x6_4 t234 t243 t244 t238 t239 t240 = some (r1, r2, r3, r4)) ∧ Aside0 (kq ≤ k) ∧ Aside0 (Kd.Q k36 36 wc w.heap.size (fun _ => True) (.slice Ao13 t240.length co13) t240) ∧ Aside0 (wc.heap[gb233]? = some (.cells #[.int .i64 0, .int .i64 0, (.slice none 0 0)] 26 (0, 0))) ∧ Aside0 (wc.heap[gb245]? = some (.cells #[.int .i64 t238, .int .i64 t239, (.slice Ao13 t240.length co13)] 26 (0, 0))) ∧ Aside0 (IsS129 w wc g237 t234 t243 t244) ∧ Aside0 (Below w.heap.size w wc))
 case first =>
  have H := HC5.out; clear HC5
  by_cases c14 : t246 = true
  · subst c14; have H1 : (if 0 ≤ (IntKind.u64.wrap (t239)) then (spec_DrawRunPlan.j0 k (shl .i64 1 (IntKind.u64.wrap (t239))) t234 t243 t244 t238 t239 t240) else (none)) = some (r1, r2, r3, r4) := by rw [if_pos rfl] at H; exact H
    clear H; have H := H1; clear H1; obtain ⟨ji15, hji15⟩ : ∃ j_ : Int, (IntKind.u64.wrap (t239)) = j_ := ⟨_, rfl⟩; replace H : (if 0 ≤ (ji15) then (spec_DrawRunPlan.j0 k (shl .i64 1 (ji15)) t234 t243 t244 t238 t239 t240) else (none)) = some (r1, r2, r3, r4) := by first | (rw [hji15] at H; exact H) | (simp only [hji15] at H ⊢; exact H)
    by_cases c16 : 0 ≤ (ji15)
    · rw [if_pos c16] at H; have c16b0 := eq_true c16; have c16b1 : decide (0 ≤ (ji15)) = true := decide_eq_true c16; clear c16; obtain ⟨ji17, hji17⟩ : ∃ j_ : Int, (shl .i64 1 (ji15)) = j_ := ⟨_, rfl⟩; replace H : (spec_DrawRunPlan.j0 k ji17 t234 t243 t244 t238 t239 t240) = some (r1, r2, r3, r4) := by first | (rw [hji17] at H; exact H) | (simp only [hji17] at H ⊢; exact H)
      have hji17_ : (IntKind.i64.wrap (1 * 2 ^ min (ji15).toNat 64)) = ji17 := hji17; have hji17z : (ji15) ≤ 64 → (IntKind.i64.wrap (1 * 2 ^ (ji15).toNat)) = ji17 := shl_small hji17; have hji17u : (IntKind.i64.wrap (2 ^ min (ji15).toNat 64)) = ji17 := by have h_ := hji17_; rw [Int.one_mul] at h_; exact h_
      have hji17v : (ji15) ≤ 64 → (IntKind.i64.wrap (2 ^ (ji15).toNat)) = ji17 := fun hle_ => by have h_ := hji17z hle_; rw [Int.one_mul] at h_; exact h_
      have hji17y : (wrap64 (1 * 2 ^ min (ji15).toNat 64)) = ji17 := (i64_w _).symm.trans hji17_; have hji17x : (ji15) ≤ 64 → (wrap64 (1 * 2 ^ (ji15).toNat)) = ji17 := fun h_ => (i64_w _).symm.trans (hji17z h_)
      have H' := Aside0.mk H; clear H; have hnb18 := NB245_233.out; have hnc18 := NB233_245.out; have hnb19 := NB245_237.out; have hnc19 := NB237_245.out; obtain ⟨hcz20_0, hcz20_1, hcz20_2, hfz20_0, hfz20_1, hfz20_2⟩ := cel3 BK245; go_wp2
      go_meet
      case rel => exact ⟨_, (ji17), (by first | rfl | (simp; done) | (simp only [← hji17] <;> (first | rfl | simp)) | (simp [*]; done)), H', ⟨xq11⟩, ⟨qE (Kd.Q_mono (Kd.Q_far (p := ⟨gb245, 2, none⟩) (Kd.Q_far (p := ⟨gb245, 1, none⟩) (Kd.Q_far (p := ⟨gb245, 0, none⟩) (Kd.Q_types HO242.out BK245.out (by decide)) (fun _ hk => hk.2) (.int .i64 t238)) (fun _ hk => hk.2) (.int .i64 t239)) (fun _ hk => hk.2) (.slice Ao13 t240.length co13)) (fun _ hk => trivial))⟩, ⟨xq66⟩, ⟨xq67⟩, ⟨xq22⟩, ⟨xq15⟩⟩
    · rw [if_neg c16] at H; exact absurd H (by simp)
  · replace c14 := Bool.eq_false_iff.mpr c14; subst c14; have H1 : (spec_DrawRunPlan.j0 k 1 t234 t243 t244 t238 t239 t240) = some (r1, r2, r3, r4) := by rw [if_neg (show ¬ (false = true) by decide)] at H; exact H
    clear H; have H := H1; clear H1; have H' := Aside0.mk H; clear H; go_wp2
    go_meet
    case rel => exact ⟨_, (1), eqA, H', ⟨xq11⟩, ⟨qE (Kd.Q_mono (Kd.Q_far (p := ⟨gb245, 2, none⟩) (Kd.Q_far (p := ⟨gb245, 1, none⟩) (Kd.Q_far (p := ⟨gb245, 0, none⟩) (Kd.Q_types HO242.out BK245.out (by decide)) (fun _ hk => hk.2) (.int .i64 t238)) (fun _ hk => hk.2) (.int .i64 t239)) (fun _ hk => hk.2) (.slice Ao13 t240.length co13)) (fun _ hk => trivial))⟩, ⟨xq66⟩, ⟨xq67⟩, ⟨xq22⟩, ⟨xq15⟩⟩
 case rest =>
  clear HC5; obtain ⟨kq, x6_4, rfl, HA, HJ4, HO_246002, BK233, BK245, HI237, HB⟩ := hcut
  cases kq with
  | zero => exact absurd HA.out (by simp [spec_DrawRunPlan.j0])
  | succ kj4 =>
   have H := HA.out; clear HA; simp only [spec_DrawRunPlan.j0] at H; replace H := Option.bind_eq_some_iff.mp H; obtain ⟨⟨t247, t248, t249⟩, A210, H⟩ := H; replace H : (if t247 = true then ((spec_l01DrawList.f kj4 t234 t248 t249 t238 (wrap64 (2 * x6_4))).bind fun bt250 => (some (t238, t239, t240, bt250.1))) else ((spec_l01DrawList.f kj4 t234 t248 t249 t238 x6_4).bind fun bt255 => (some (t238, t239, t240, bt255.1)))) = some (r1, r2, r3, r4) := H
   have A21 := Aside0.mk A210; clear A210
   by_cases c22 : t247 = true
   · subst c22; have H1 : ((spec_l01DrawList.f kj4 t234 t248 t249 t238 (wrap64 (2 * x6_4))).bind fun bt250 => (some (t238, t239, t240, bt250.1))) = some (r1, r2, r3, r4) := by rw [if_pos rfl] at H; exact H
     clear H; have H := H1; clear H1; replace H := Option.bind_eq_some_iff.mp H; obtain ⟨⟨t250, t253, t254⟩, A230, H⟩ := H; replace H : (some (t238, t239, t240, t250)) = some (r1, r2, r3, r4) := H
     have A23 := Aside0.mk A230; clear A230; simp only [Option.some.injEq, Prod.mk.injEq] at H; obtain ⟨rfl, rfl, rfl, rfl⟩ := H; try go_wp2_with (first | ((with_reducible refine gate_callee (f := 61) rfl ?_); refine goesL_ (some 20) rfl rfl Try.func61 (by kernel_rfl) rfl #[.pointer (some ⟨g237, 0, none⟩), .int .i64 12] rfl xq1 ?_; (with_reducible refine (spec_l01Once.calls g237 t234 t243 t244 12 true t248 t249 w _ ?side1 ?side2 A21.out).mono ?_); (case side1 => exact xq22); (case side2 => exact xq15); rintro e w24 ⟨rfl, hi, hb, hk⟩; refine ⟨_, rfl, ?_⟩; have n0_ := Aside0.mk (Kd.Q_mono (Kd.Q_keep (IsS129.apartQ (show IsS129 w _ g237 t234 t243 t244 from by repeat (first | (with_reducible first | exact HI237.out | apply IsS129.alloc | apply IsS129.drewN | apply IsS129.drew | apply IsS129.set_1 | apply IsS129.set_2 | refine IsS129.far ?_ NB237_233.out _ | refine IsS129.far ?_ NB237_245.out _) | exact HI237.out)) (qA HO_246002) (by decide)) hk (fun _ h => h.2)) (fun _ h => h.1)); have n1_ := Aside0.mk (KeepBut.blk hk (g' := gb233) (o := .cells #[.int .i64 0, .int .i64 0, .slice none 0 0] 26 (0, 0)) blkA NB233_237.out (by simp)); have n2_ := Aside0.mk (KeepBut.blk hk (g' := gb245) (o := .cells #[.int .i64 t238, .int .i64 t239, .slice Ao13 t240.length co13] 26 (0, 0)) blkA NB245_237.out (by simp)); have n3_ := Aside0.mk hb; have n4_ := Aside0.mk hi; clear HO_246002; clear BK233; clear BK245; clear HB; clear HI237; have HO_246002 := n0_; have BK233 := n1_; have BK245 := n2_; have HB := n3_; have HI237 := n4_; clear n0_ n1_ n2_ n3_ n4_; (try clear hb); (try clear hb2); (try clear hk); (try clear hi)))
     replace HO_246002 := Aside0.mk (Kd.Q_drew HO_246002.out); replace BK233 := Aside0.mk (blk_drew BK233.out); replace BK245 := Aside0.mk (blk_drew BK245.out); replace HI237 := Aside0.mk (IsS129.drew HI237.out); replace HB := Aside0.mk (below_drew1 HB.out); refine start_ (n := 8) (S := fun w' => w'.cell? ⟨gb245, 0, none⟩ = some (.int .i64 t238) ∧ w'.cell? ⟨gb245, 1, none⟩ = some (.int .i64 t239) ∧ w'.cell? ⟨gb245, 2, none⟩ = some (.slice Ao13 t240.length co13)) (ds := []) #[false, false, false, false, false, false, false, false] (by kernel_rfl) rfl rfl ⟨(blk_cell BK245.out 0).trans rfl, (blk_cell BK245.out 1).trans rfl, (blk_cell BK245.out 2).trans rfl⟩ (fun hHeld => ?_); refine with_tabW spec_DrawRunPlan.tab8 spec_DrawRunPlan.bits8 (fun HT_ HW_ => ?_)
     generalize w24.drew = w25 at HO_246002 BK233 BK245 HI237 HB hHeld ⊢
     refine pure_ (i := 1) (N := some 24) (v := ?_) (a' := ?_) #[false, true, false, false, false, false, false, false] rfl rfl (any_of HT_.out (by kernel_rfl)) (fun _ _ _ h => h) (Or.inl ⟨by rfl, ?_⟩) ?_ ?_
     rotate_left
     · intro w'; go_simp
       with_reducible rfl
     rotate_left
     · simp only [Act.put, sa, sb, sc, i64_w, i32_w]
       rfl
     refine pure_ (i := 2) (N := some 25) (v := ?_) (a' := ?_) #[false, true, true, false, false, false, false, false] rfl rfl (any_of HT_.out (by kernel_rfl)) (fun _ _ _ h => h) (Or.inl ⟨by rfl, ?_⟩) ?_ ?_
     rotate_left
     · intro w'; go_simp
       with_reducible rfl
     rotate_left
     · simp only [Act.put, sa, sb, sc, i64_w, i32_w]
       rfl
     refine pure_ (i := 4) (N := some 27) (v := ?_) (a' := ?_) #[false, true, true, false, true, false, false, false] rfl rfl (any_of HT_.out (by kernel_rfl)) (fun _ _ _ h => h) (Or.inl ⟨by rfl, ?_⟩) ?_ ?_
     rotate_left
     · intro w'; go_simp
       with_reducible rfl
     rotate_left
     · simp only [Act.put, sa, sb, sc, i64_w, i32_w]
       rfl
     refine take_ (i := 0) (N := some 23) (v := ?_) (a' := ?_) #[true, true, true, false, true, false, false, false] rfl rfl (take_ofW HT_.out HW_.out (by kernel_rfl)) (fun _ _ _ h => h) (Or.inl ⟨by rfl, ?_⟩) hHeld ?_ ?_
     rotate_left
     · rintro w' ⟨s0, s1, s2⟩
       go_simp
       with_reducible rfl
     rotate_left
     · simp only [Act.put, sa, sb, sc, i64_w, i32_w]
       rfl
     refine take_ (i := 3) (N := some 26) (v := ?_) (a' := ?_) #[true, true, true, true, true, false, false, false] rfl rfl (take_ofW HT_.out HW_.out (by kernel_rfl)) (fun _ _ _ h => h) (Or.inl ⟨by rfl, ?_⟩) hHeld ?_ ?_
     rotate_left
     · rintro w' ⟨s0, s1, s2⟩
       go_simp
       with_reducible rfl
     rotate_left
     · simp only [Act.put, sa, sb, sc, i64_w, i32_w]
       rfl
     refine one_ (i := 5) (N := some 28) #[true, true, true, true, true, true, false, false] rfl rfl (one_of HT_.out (by kernel_rfl)) (by decide) (fun K hK => ?_)
     refine goes_ Try.func62 (by kernel_rfl) rfl #[.pointer (some ⟨g237, 0, none⟩), .int .i64 t238, .int .i64 (wrap64 (2 * x6_4))] (by rfl) rfl rfl xq1 ?_
     with_reducible refine (spec_l01DrawList.calls kj4 g237 t234 t248 t249 t238 (wrap64 (2 * x6_4)) t250 t253 t254 w _ ?side1 ?side2 A23.out).mono ?_
     (case side1 => exact xq22)
     (case side2 => exact xq15)
     rintro e w26 ⟨v251, rfl, ho0, hi, hb, hk⟩
     refine ⟨_, rfl, ?_⟩
     have n0_ := Aside0.mk (Kd.Q_mono (Kd.Q_keep (IsS129.apartQ (show IsS129 w _ g237 t234 t248 t249 from by repeat (first | (with_reducible first | exact HI237.out | apply IsS129.alloc | apply IsS129.drewN | apply IsS129.drew | apply IsS129.set_1 | apply IsS129.set_2 | refine IsS129.far ?_ NB237_233.out _ | refine IsS129.far ?_ NB237_245.out _) | exact HI237.out)) (qA HO_246002) (by decide)) hk (fun _ h => h.2)) (fun _ h => h.1)); have n1_ := Aside0.mk (KeepBut.blk hk (g' := gb233) (o := .cells #[.int .i64 0, .int .i64 0, .slice none 0 0] 26 (0, 0)) blkA NB233_237.out (by simp)); have n2_ := Aside0.mk (KeepBut.blk hk (g' := gb245) (o := .cells #[.int .i64 t238, .int .i64 t239, .slice Ao13 t240.length co13] 26 (0, 0)) blkA NB245_237.out (by simp)); have n3_ := Aside0.mk (Kd.R_lower ho0 (below_size xq15)); have n4_ := Aside0.mk hb; have n5_ := Aside0.mk hi; clear HO_246002; clear BK233; clear BK245; clear HB; clear HI237; have HO_246002 := n0_; have BK233 := n1_; have BK245 := n2_; have HO252 := n3_; have HB := n4_; have HI237 := n5_; clear n0_ n1_ n2_ n3_ n4_ n5_; (try clear hb); (try clear hb2); (try clear hk); (try clear hi); (try clear ho0); refine hK.out _ _ ⟨(blk_cell BK245.out 0).trans rfl, (blk_cell BK245.out 1).trans rfl, (blk_cell BK245.out 2).trans rfl⟩ (fun hHeld => ?_)
     clear hK K; refine norm_ (a' := ?_) ?_ ?_
     rotate_left
     · show Act.put _ (some 28) _ = _
       simp only [Act.put, sa, sb, sc, i64_w, i32_w]
       rfl
     refine one_ (i := 6) (N := none) #[true, true, true, true, true, true, true, false] rfl rfl (one_of HT_.out (by kernel_rfl)) (by decide) (fun K hK => ?_)
     have hs27 : w26.cell? ⟨gb233, 0, none⟩ = some (.int .i64 0) := (blk_cell BK233.out 0).trans rfl; have hfs27 := blk_frozen BK233.out 0; have hns27_1 := NB245_233.out; have hms27_1 := NB233_245.out; have hs28 : w26.cell? ⟨gb233, 1, none⟩ = some (.int .i64 0) := (blk_cell BK233.out 1).trans rfl; have hfs28 := blk_frozen BK233.out 1; have hns28_1 := NB245_233.out; have hms28_1 := NB233_245.out; have hs29 : w26.cell? ⟨gb233, 2, none⟩ = some (.slice none 0 0) := (blk_cell BK233.out 2).trans rfl; have hfs29 := blk_frozen BK233.out 2; have hns29_1 := NB245_233.out; have hms29_1 := NB233_245.out; refine skip_ (w1 := ?_) (by rfl) rfl ?_ ?_
     rotate_left
     · go_simp
       rfl
     refine hK.out _ _ ⟨((cell_far (p := ⟨gb233, _, none⟩) NB245_233.out _).trans (((cell_far (p := ⟨gb233, _, none⟩) NB245_233.out _).trans (((cell_far (p := ⟨gb233, _, none⟩) NB245_233.out _).trans (hHeld.1)))))), ((cell_far (p := ⟨gb233, _, none⟩) NB245_233.out _).trans (((cell_far (p := ⟨gb233, _, none⟩) NB245_233.out _).trans (((cell_far (p := ⟨gb233, _, none⟩) NB245_233.out _).trans (hHeld.2.1)))))), ((cell_far (p := ⟨gb233, _, none⟩) NB245_233.out _).trans (((cell_far (p := ⟨gb233, _, none⟩) NB245_233.out _).trans (((cell_far (p := ⟨gb233, _, none⟩) NB245_233.out _).trans (hHeld.2.2))))))⟩ (fun hHeld => ?_)
     clear hK K; refine pure_ (i := 7) (N := some 3) (v := ?_) (a' := ?_) #[true, true, true, true, true, true, true, true] rfl rfl (any_of HT_.out (by kernel_rfl)) (fun _ _ _ h => h) (Or.inl ⟨by rfl, ?_⟩) ?_ ?_
     rotate_left
     · intro w'; go_simp
       with_reducible rfl
     rotate_left
     · simp only [Act.put, sa, sb, sc, i64_w, i32_w]
       rfl
     refine done_ (done_of HT_.out (by kernel_rfl)) ?_
     try go_wp2
     refine bodyPost_ret (results_ct rfl _ _ gb233 26 #[.int .i64 t238, .int .i64 t239, .slice Ao13 t240.length co13] (0, 0) _ rfl xq68 Try.underlying26 rfl (by kernel_rfl)) rfl ?_
     exact ⟨_, _, xq2, xq69, by (with_reducible repeat (first | apply Kd.R_alloc | apply Kd.R_drewN | apply Kd.R_drew)); exact Kd.R_mono (Kd.R_far (p := ⟨gb233, 2, none⟩) (Kd.R_far (p := ⟨gb233, 1, none⟩) (Kd.R_far (p := ⟨gb233, 0, none⟩) (Kd.R_types HO252.out BK233.out (by decide)) (fun _ hk => hk.2) (.int .i64 t238)) (fun _ hk => hk.2) (.int .i64 t239)) (fun _ hk => hk.2) (.slice Ao13 t240.length co13)) (fun _ hk => trivial), xq15⟩
   · replace c22 := Bool.eq_false_iff.mpr c22; subst c22; have H1 : ((spec_l01DrawList.f kj4 t234 t248 t249 t238 x6_4).bind fun bt255 => (some (t238, t239, t240, bt255.1))) = some (r1, r2, r3, r4) := by rw [if_neg (show ¬ (false = true) by decide)] at H; exact H
     clear H; have H := H1; clear H1; replace H := Option.bind_eq_some_iff.mp H; obtain ⟨⟨t255, t258, t259⟩, A300, H⟩ := H; replace H : (some (t238, t239, t240, t255)) = some (r1, r2, r3, r4) := H
     have A30 := Aside0.mk A300; clear A300; simp only [Option.some.injEq, Prod.mk.injEq] at H; obtain ⟨rfl, rfl, rfl, rfl⟩ := H; try go_wp2_with (first | ((with_reducible refine gate_callee (f := 61) rfl ?_); refine goesL_ (some 20) rfl rfl Try.func61 (by kernel_rfl) rfl #[.pointer (some ⟨g237, 0, none⟩), .int .i64 12] rfl xq1 ?_; (with_reducible refine (spec_l01Once.calls g237 t234 t243 t244 12 false t248 t249 w _ ?side1 ?side2 A21.out).mono ?_); (case side1 => exact xq22); (case side2 => exact xq15); rintro e w31 ⟨rfl, hi, hb, hk⟩; refine ⟨_, rfl, ?_⟩; have n0_ := Aside0.mk (Kd.Q_mono (Kd.Q_keep (IsS129.apartQ (show IsS129 w _ g237 t234 t243 t244 from by repeat (first | (with_reducible first | exact HI237.out | apply IsS129.alloc | apply IsS129.drewN | apply IsS129.drew | apply IsS129.set_1 | apply IsS129.set_2 | refine IsS129.far ?_ NB237_233.out _ | refine IsS129.far ?_ NB237_245.out _) | exact HI237.out)) (qA HO_246002) (by decide)) hk (fun _ h => h.2)) (fun _ h => h.1)); have n1_ := Aside0.mk (KeepBut.blk hk (g' := gb233) (o := .cells #[.int .i64 0, .int .i64 0, .slice none 0 0] 26 (0, 0)) blkA NB233_237.out (by simp)); have n2_ := Aside0.mk (KeepBut.blk hk (g' := gb245) (o := .cells #[.int .i64 t238, .int .i64 t239, .slice Ao13 t240.length co13] 26 (0, 0)) blkA NB245_237.out (by simp)); have n3_ := Aside0.mk hb; have n4_ := Aside0.mk hi; clear HO_246002; clear BK233; clear BK245; clear HB; clear HI237; have HO_246002 := n0_; have BK233 := n1_; have BK245 := n2_; have HB := n3_; have HI237 := n4_; clear n0_ n1_ n2_ n3_ n4_; (try clear hb); (try clear hb2); (try clear hk); (try clear hi)))
     replace HO_246002 := Aside0.mk (Kd.Q_drew HO_246002.out); replace BK233 := Aside0.mk (blk_drew BK233.out); replace BK245 := Aside0.mk (blk_drew BK245.out); replace HI237 := Aside0.mk (IsS129.drew HI237.out); replace HB := Aside0.mk (below_drew1 HB.out); refine start_ (n := 8) (S := fun w' => w'.cell? ⟨gb245, 0, none⟩ = some (.int .i64 t238) ∧ w'.cell? ⟨gb245, 1, none⟩ = some (.int .i64 t239) ∧ w'.cell? ⟨gb245, 2, none⟩ = some (.slice Ao13 t240.length co13)) (ds := []) #[false, false, false, false, false, false, false, false] (by kernel_rfl) rfl rfl ⟨(blk_cell BK245.out 0).trans rfl, (blk_cell BK245.out 1).trans rfl, (blk_cell BK245.out 2).trans rfl⟩ (fun hHeld => ?_); refine with_tabW spec_DrawRunPlan.tab8 spec_DrawRunPlan.bits8 (fun HT_ HW_ => ?_)
     generalize w31.drew = w32 at HO_246002 BK233 BK245 HI237 HB hHeld ⊢
     refine pure_ (i := 1) (N := some 24) (v := ?_) (a' := ?_) #[false, true, false, false, false, false, false, false] rfl rfl (any_of HT_.out (by kernel_rfl)) (fun _ _ _ h => h) (Or.inl ⟨by rfl, ?_⟩) ?_ ?_
     rotate_left
     · intro w'; go_simp
       with_reducible rfl
     rotate_left
     · simp only [Act.put, sa, sb, sc, i64_w, i32_w]
       rfl
     refine pure_ (i := 2) (N := some 25) (v := ?_) (a' := ?_) #[false, true, true, false, false, false, false, false] rfl rfl (any_of HT_.out (by kernel_rfl)) (fun _ _ _ h => h) (Or.inl ⟨by rfl, ?_⟩) ?_ ?_
     rotate_left
     · intro w'; go_simp
       with_reducible rfl
     rotate_left
     · simp only [Act.put, sa, sb, sc, i64_w, i32_w]
       rfl
     refine pure_ (i := 4) (N := some 27) (v := ?_) (a' := ?_) #[false, true, true, false, true, false, false, false] rfl rfl (any_of HT_.out (by kernel_rfl)) (fun _ _ _ h => h) (Or.inl ⟨by rfl, ?_⟩) ?_ ?_
     rotate_left
     · intro w'; go_simp
       with_reducible rfl
     rotate_left
     · simp only [Act.put, sa, sb, sc, i64_w, i32_w]
       rfl
     refine take_ (i := 0) (N := some 23) (v := ?_) (a' := ?_) #[true, true, true, false, true, false, false, false] rfl rfl (take_ofW HT_.out HW_.out (by kernel_rfl)) (fun _ _ _ h => h) (Or.inl ⟨by rfl, ?_⟩) hHeld ?_ ?_
     rotate_left
     · rintro w' ⟨s0, s1, s2⟩
       go_simp
       with_reducible rfl
     rotate_left
     · simp only [Act.put, sa, sb, sc, i64_w, i32_w]
       rfl
     refine take_ (i := 3) (N := some 26) (v := ?_) (a' := ?_) #[true, true, true, true, true, false, false, false] rfl rfl (take_ofW HT_.out HW_.out (by kernel_rfl)) (fun _ _ _ h => h) (Or.inl ⟨by rfl, ?_⟩) hHeld ?_ ?_
     rotate_left
     · rintro w' ⟨s0, s1, s2⟩
       go_simp
       with_reducible rfl
     rotate_left
     · simp only [Act.put, sa, sb, sc, i64_w, i32_w]
       rfl
     refine one_ (i := 5) (N := some 28) #[true, true, true, true, true, true, false, false] rfl rfl (one_of HT_.out (by kernel_rfl)) (by decide) (fun K hK => ?_)
     refine goes_ Try.func62 (by kernel_rfl) rfl #[.pointer (some ⟨g237, 0, none⟩), .int .i64 t238, .int .i64 x6_4] (by rfl) rfl rfl xq1 ?_
     with_reducible refine (spec_l01DrawList.calls kj4 g237 t234 t248 t249 t238 x6_4 t255 t258 t259 w _ ?side1 ?side2 A30.out).mono ?_
     (case side1 => exact xq22)
     (case side2 => exact xq15)
     rintro e w33 ⟨v256, rfl, ho0, hi, hb, hk⟩
     refine ⟨_, rfl, ?_⟩
     have n0_ := Aside0.mk (Kd.Q_mono (Kd.Q_keep (IsS129.apartQ (show IsS129 w _ g237 t234 t248 t249 from by repeat (first | (with_reducible first | exact HI237.out | apply IsS129.alloc | apply IsS129.drewN | apply IsS129.drew | apply IsS129.set_1 | apply IsS129.set_2 | refine IsS129.far ?_ NB237_233.out _ | refine IsS129.far ?_ NB237_245.out _) | exact HI237.out)) (qA HO_246002) (by decide)) hk (fun _ h => h.2)) (fun _ h => h.1)); have n1_ := Aside0.mk (KeepBut.blk hk (g' := gb233) (o := .cells #[.int .i64 0, .int .i64 0, .slice none 0 0] 26 (0, 0)) blkA NB233_237.out (by simp)); have n2_ := Aside0.mk (KeepBut.blk hk (g' := gb245) (o := .cells #[.int .i64 t238, .int .i64 t239, .slice Ao13 t240.length co13] 26 (0, 0)) blkA NB245_237.out (by simp)); have n3_ := Aside0.mk (Kd.R_lower ho0 (below_size xq15)); have n4_ := Aside0.mk hb; have n5_ := Aside0.mk hi; clear HO_246002; clear BK233; clear BK245; clear HB; clear HI237; have HO_246002 := n0_; have BK233 := n1_; have BK245 := n2_; have HO257 := n3_; have HB := n4_; have HI237 := n5_; clear n0_ n1_ n2_ n3_ n4_ n5_; (try clear hb); (try clear hb2); (try clear hk); (try clear hi); (try clear ho0); refine hK.out _ _ ⟨(blk_cell BK245.out 0).trans rfl, (blk_cell BK245.out 1).trans rfl, (blk_cell BK245.out 2).trans rfl⟩ (fun hHeld => ?_)
     clear hK K; refine norm_ (a' := ?_) ?_ ?_
     rotate_left
     · show Act.put _ (some 28) _ = _
       simp only [Act.put, sa, sb, sc, i64_w, i32_w]
       rfl
     refine one_ (i := 6) (N := none) #[true, true, true, true, true, true, true, false] rfl rfl (one_of HT_.out (by kernel_rfl)) (by decide) (fun K hK => ?_)
     have hs34 : w33.cell? ⟨gb233, 0, none⟩ = some (.int .i64 0) := (blk_cell BK233.out 0).trans rfl; have hfs34 := blk_frozen BK233.out 0; have hns34_1 := NB245_233.out; have hms34_1 := NB233_245.out; have hs35 : w33.cell? ⟨gb233, 1, none⟩ = some (.int .i64 0) := (blk_cell BK233.out 1).trans rfl; have hfs35 := blk_frozen BK233.out 1; have hns35_1 := NB245_233.out; have hms35_1 := NB233_245.out; have hs36 : w33.cell? ⟨gb233, 2, none⟩ = some (.slice none 0 0) := (blk_cell BK233.out 2).trans rfl; have hfs36 := blk_frozen BK233.out 2; have hns36_1 := NB245_233.out; have hms36_1 := NB233_245.out; refine skip_ (w1 := ?_) (by rfl) rfl ?_ ?_
     rotate_left
     · go_simp
       rfl
     refine hK.out _ _ ⟨((cell_far (p := ⟨gb233, _, none⟩) NB245_233.out _).trans (((cell_far (p := ⟨gb233, _, none⟩) NB245_233.out _).trans (((cell_far (p := ⟨gb233, _, none⟩) NB245_233.out _).trans (hHeld.1)))))), ((cell_far (p := ⟨gb233, _, none⟩) NB245_233.out _).trans (((cell_far (p := ⟨gb233, _, none⟩) NB245_233.out _).trans (((cell_far (p := ⟨gb233, _, none⟩) NB245_233.out _).trans (hHeld.2.1)))))), ((cell_far (p := ⟨gb233, _, none⟩) NB245_233.out _).trans (((cell_far (p := ⟨gb233, _, none⟩) NB245_233.out _).trans (((cell_far (p := ⟨gb233, _, none⟩) NB245_233.out _).trans (hHeld.2.2))))))⟩ (fun hHeld => ?_)
     clear hK K; refine pure_ (i := 7) (N := some 3) (v := ?_) (a' := ?_) #[true, true, true, true, true, true, true, true] rfl rfl (any_of HT_.out (by kernel_rfl)) (fun _ _ _ h => h) (Or.inl ⟨by rfl, ?_⟩) ?_ ?_
     rotate_left
     · intro w'; go_simp
       with_reducible rfl
     rotate_left
     · simp only [Act.put, sa, sb, sc, i64_w, i32_w]
       rfl
     refine done_ (done_of HT_.out (by kernel_rfl)) ?_
     try go_wp2
     refine bodyPost_ret (results_ct rfl _ _ gb233 26 #[.int .i64 t238, .int .i64 t239, .slice Ao13 t240.length co13] (0, 0) _ rfl xq68 Try.underlying26 rfl (by kernel_rfl)) rfl ?_
     exact ⟨_, _, xq2, xq69, by (with_reducible repeat (first | apply Kd.R_alloc | apply Kd.R_drewN | apply Kd.R_drew)); exact Kd.R_mono (Kd.R_far (p := ⟨gb233, 2, none⟩) (Kd.R_far (p := ⟨gb233, 1, none⟩) (Kd.R_far (p := ⟨gb233, 0, none⟩) (Kd.R_types HO257.out BK233.out (by decide)) (fun _ hk => hk.2) (.int .i64 t238)) (fun _ hk => hk.2) (.int .i64 t239)) (fun _ hk => hk.2) (.slice Ao13 t240.length co13)) (fun _ hk => trivial), xq15⟩

/-! ### spec_LogOf: function 66 -/
def spec_LogOf.l0 : Nat → Int → Int → Option (Int)
 | 0, _, _ => none
 | k + 1, x0, x3 => if x3 ≤ 9 then (if 0 ≤ (IntKind.u64.wrap (x3)) then (if x0 = (shl .i64 1 (IntKind.u64.wrap (x3))) then (some x3) else (spec_LogOf.l0 k x0 (wrap64 (x3 + 1)))) else (none)) else (some (-1))
def spec_LogOf.f (k : Nat) (a0 : Int) : Option (Int) := spec_LogOf.l0 k a0 0
theorem spec_LogOf.mono_l : ∀ k, (∀ y0 y1, LeO (spec_LogOf.l0 k y0 y1) (spec_LogOf.l0 (k + 1) y0 y1))
 | 0 => fun _ _ r h => by simp [spec_LogOf.l0] at h
 | k + 1 => by
  have ih0 := spec_LogOf.mono_l k
  · intro y0 y1
    unfold spec_LogOf.l0
    repeat' first
    | (with_reducible exact ih0 _ _)
    | (with_reducible exact LeO.refl _)
    | (with_reducible exact LeO.none _)
    | (with_reducible refine LeO.ite ?_ ?_)
    | (with_reducible refine LeO.bind ?_ (fun _ => ?_))
    | exact ih0 _ _
    | exact LeO.none _
    | refine LeO.ite ?_ ?_
    | refine LeO.bind ?_ (fun _ => ?_)
theorem spec_LogOf.mono : ∀ a0 k, LeO (spec_LogOf.f k a0) (spec_LogOf.f (k + 1) a0) := by
 intro a0 k; have ih0 := spec_LogOf.mono_l k
 unfold spec_LogOf.f
 repeat' first
  | (with_reducible exact ih0 _ _)
  | (with_reducible exact LeO.refl _)
  | (with_reducible exact LeO.none _)
  | (with_reducible refine LeO.ite ?_ ?_)
  | (with_reducible refine LeO.bind ?_ (fun _ => ?_))
  | exact ih0 _ _
  | exact LeO.none _
  | refine LeO.ite ?_ ?_
  | refine LeO.bind ?_ (fun _ => ?_)
set_option maxHeartbeats 8000000 in
set_option maxRecDepth 100000 in
theorem spec_LogOf.calls (k : Nat) (a0 : Int) (r : Int) (w : World) (h : spec_LogOf.f k a0 = some r) :
 Calls Try.prog 66 #[.int .i64 a0] w fun e w' => e = .returned (.int .i64 r) ∧ Drawn0 w w' := by
 have H : (spec_LogOf.l0 k a0 0) = some r := h; clear h; have H' := Aside0.mk H; clear H; go_enter Try.func66, Try.ntmps66
 go_wp2
 go_loopg [3] k (fun kq v3 w' => ∃ (x3_1 : Int), v3 = .int .i64 x3_1 ∧ Aside0 (spec_LogOf.l0 kq a0 x3_1 = some r) ∧ Aside0 (kq ≤ k) ∧ Drawn0 w w')
 case atStart => exact ⟨(0), eqA, H', ⟨Nat.le_refl _⟩, xq3⟩
 case round =>
  clear H'; obtain ⟨x3_1, rfl, HA, HK1, ⟨m1, rfl⟩⟩ := hrel
  cases gk with
  | zero => exact absurd HA.out (by simp [spec_LogOf.l0])
  | succ k1 =>
   have H := HA.out; clear HA; simp only [spec_LogOf.l0] at H
   by_cases c2 : x3_1 ≤ 9
   · rw [if_pos c2] at H; have c2b0 := decide_eq_true c2; clear c2; obtain ⟨ji3, hji3⟩ : ∃ j_ : Int, (IntKind.u64.wrap (x3_1)) = j_ := ⟨_, rfl⟩; replace H : (if 0 ≤ (ji3) then (if a0 = (shl .i64 1 (ji3)) then (some x3_1) else (spec_LogOf.l0 k1 a0 (wrap64 (x3_1 + 1)))) else (none)) = some r := by first | (rw [hji3] at H; exact H) | (simp only [hji3] at H ⊢; exact H)
     by_cases c4 : 0 ≤ (ji3)
     · rw [if_pos c4] at H; have c4b0 := eq_true c4; have c4b1 : decide (0 ≤ (ji3)) = true := decide_eq_true c4; clear c4; obtain ⟨ji5, hji5⟩ : ∃ j_ : Int, (shl .i64 1 (ji3)) = j_ := ⟨_, rfl⟩; replace H : (if a0 = (ji5) then (some x3_1) else (spec_LogOf.l0 k1 a0 (wrap64 (x3_1 + 1)))) = some r := by first | (rw [hji5] at H; exact H) | (simp only [hji5] at H ⊢; exact H)
       have hji5_ : (IntKind.i64.wrap (1 * 2 ^ min (ji3).toNat 64)) = ji5 := hji5; have hji5z : (ji3) ≤ 64 → (IntKind.i64.wrap (1 * 2 ^ (ji3).toNat)) = ji5 := shl_small hji5; have hji5u : (IntKind.i64.wrap (2 ^ min (ji3).toNat 64)) = ji5 := by have h_ := hji5_; rw [Int.one_mul] at h_; exact h_
       have hji5v : (ji3) ≤ 64 → (IntKind.i64.wrap (2 ^ (ji3).toNat)) = ji5 := fun hle_ => by have h_ := hji5z hle_; rw [Int.one_mul] at h_; exact h_
       have hji5y : (wrap64 (1 * 2 ^ min (ji3).toNat 64)) = ji5 := (i64_w _).symm.trans hji5_; have hji5x : (ji3) ≤ 64 → (wrap64 (1 * 2 ^ (ji3).toNat)) = ji5 := fun h_ => (i64_w _).symm.trans (hji5z h_)
       by_cases c6 : a0 = (ji5)
       · rw [if_pos c6] at H; have c6b0 : (a0 == (ji5)) = true := beq_iff_eq.mpr c6; have c6b1 : (a0 != (ji5)) = false := bne_eq_false_iff_eq.mpr c6; clear c6; obtain rfl := Option.some.inj H; go_wp2
         go_ret
         exact ⟨by first | rfl | (simp; done) | (simp only [← hji3, ← hji5] <;> (first | rfl | simp)) | (simp [*]; done), xq3⟩
       · rw [if_neg c6] at H; have c6b0 : (a0 == (ji5)) = false := beq_eq_false_iff_ne.mpr c6; have c6b1 : (a0 != (ji5)) = true := bne_iff_ne.mpr c6; have H' := Aside0.mk H; clear H; go_wp2
         go_roundg k1
         case measure => have := HK1.out; omega
         case rel => exact ⟨(wrap64 (x3_1 + 1)), eqA, H', ⟨xq12⟩, xq3⟩
     · rw [if_neg c4] at H; exact absurd H (by simp)
   · rw [if_neg c2] at H; have c2b0 := decide_eq_false c2; clear c2; obtain rfl := Option.some.inj H; go_wp2
     go_ret
     exact ⟨xq7, xq3⟩

end Go.Proofs.Ytbojabmpcfclhaa.PFnPlanAny

import Derived.Test.YtpomhmcehbefaaaPFnExactMergex3a0
import Derived.Test.YtpomhmcehbefaaaPFnExactMergex3a1
-- Written by a program of this session (the print of the kit with contracts of this session's own added)
namespace Go.Proofs.Ytpomhmcehbefaaa.PFnExactMerge
open Go.RowKit Go.Proofs.YtpomhmcehbefaaaW.PrintWords Go.Proofs.YtpomhmcehbefaaaW.PrintLast Go.Proofs.YtpomhmcehbefaaaW.PrintMore
set_option linter.unusedVariables false
set_option linter.unusedSimpArgs false
set_option maxHeartbeats 8000000 in
set_option maxRecDepth 100000 in
theorem laws_FnExactMerge.calls (k : Nat) (a0_0 : Int) (a0_1 : Int) (a0_2 : Int) (a0_3 : Int) (a1_0 : Int) (a1_1 : Int) (a1_2 : Int) (a1_3 : Int) (r : Bool) (w : World) (h : laws_FnExactMerge.f k a0_0 a0_1 a0_2 a0_3 a1_0 a1_1 a1_2 a1_3 = some r) :
 Calls Try.prog 8 #[.agg #[.int .i64 a0_0, .int .i64 a0_1, .int .i64 a0_2, .int .i64 a0_3], .agg #[.int .i64 a1_0, .int .i64 a1_1, .int .i64 a1_2, .int .i64 a1_3]] w fun e w' => e = .returned (.bool r) ∧ Below w.heap.size w w' := by
 have hu68 := Try.underlying68
 have hu51 := Try.underlying51
 have HB := Aside0.mk (Below.refl w.heap.size w)
 have H : ((laws_toBucket.f a0_0 a0_1 a0_2 a0_3).bind fun bt155 => ((laws_toBucket.f a1_0 a1_1 a1_2 a1_3).bind fun bt159 => ((spec_Merge.f k bt155.1 bt155.2.1 bt155.2.2.1 bt155.2.2.2 bt159.1 bt159.2.1 bt159.2.2.1 bt159.2.2.2).bind fun bt163 => ((laws_toBucket.f a0_0 a0_1 a0_2 a0_3).bind fun bt169 => ((laws_toBucket.f a1_0 a1_1 a1_2 a1_3).bind fun bt173 => ((impl_Merge.f bt169.1 bt169.2.1 bt169.2.2.1 bt169.2.2.2 bt173.1 bt173.2.1 bt173.2.2.1 bt173.2.2.2).bind fun bt177 => ((laws_eqBucket.f bt177.1 bt177.2.1 bt177.2.2.1 bt177.2.2.2.1 bt163.1 bt163.2.1 bt163.2.2.1 bt163.2.2.2.1).bind fun t183 => (if t183 = true then (if (bt177.2.2.2.2 != bt163.2.2.2.2) = true then (some false) else (some true)) else (some false))))))))) = some r := h
 clear h
 replace H := Option.bind_eq_some_iff.mp H
 obtain ⟨⟨t155, t156, t157, t158⟩, A30, H⟩ := H
 replace H : ((laws_toBucket.f a1_0 a1_1 a1_2 a1_3).bind fun bt159 => ((spec_Merge.f k t155 t156 t157 t158 bt159.1 bt159.2.1 bt159.2.2.1 bt159.2.2.2).bind fun bt163 => ((laws_toBucket.f a0_0 a0_1 a0_2 a0_3).bind fun bt169 => ((laws_toBucket.f a1_0 a1_1 a1_2 a1_3).bind fun bt173 => ((impl_Merge.f bt169.1 bt169.2.1 bt169.2.2.1 bt169.2.2.2 bt173.1 bt173.2.1 bt173.2.2.1 bt173.2.2.2).bind fun bt177 => ((laws_eqBucket.f bt177.1 bt177.2.1 bt177.2.2.1 bt177.2.2.2.1 bt163.1 bt163.2.1 bt163.2.2.1 bt163.2.2.2.1).bind fun t183 => (if t183 = true then (if (bt177.2.2.2.2 != bt163.2.2.2.2) = true then (some false) else (some true)) else (some false)))))))) = some r := H
 have A3 := Aside0.mk A30
 clear A30
 replace H := Option.bind_eq_some_iff.mp H
 obtain ⟨⟨t159, t160, t161, t162⟩, A40, H⟩ := H
 replace H : ((spec_Merge.f k t155 t156 t157 t158 t159 t160 t161 t162).bind fun bt163 => ((laws_toBucket.f a0_0 a0_1 a0_2 a0_3).bind fun bt169 => ((laws_toBucket.f a1_0 a1_1 a1_2 a1_3).bind fun bt173 => ((impl_Merge.f bt169.1 bt169.2.1 bt169.2.2.1 bt169.2.2.2 bt173.1 bt173.2.1 bt173.2.2.1 bt173.2.2.2).bind fun bt177 => ((laws_eqBucket.f bt177.1 bt177.2.1 bt177.2.2.1 bt177.2.2.2.1 bt163.1 bt163.2.1 bt163.2.2.1 bt163.2.2.2.1).bind fun t183 => (if t183 = true then (if (bt177.2.2.2.2 != bt163.2.2.2.2) = true then (some false) else (some true)) else (some false))))))) = some r := H
 have A4 := Aside0.mk A40
 clear A40
 replace H := Option.bind_eq_some_iff.mp H
 obtain ⟨⟨t163, t164, t165, t166, t167⟩, A50, H⟩ := H
 replace H : ((laws_toBucket.f a0_0 a0_1 a0_2 a0_3).bind fun bt169 => ((laws_toBucket.f a1_0 a1_1 a1_2 a1_3).bind fun bt173 => ((impl_Merge.f bt169.1 bt169.2.1 bt169.2.2.1 bt169.2.2.2 bt173.1 bt173.2.1 bt173.2.2.1 bt173.2.2.2).bind fun bt177 => ((laws_eqBucket.f bt177.1 bt177.2.1 bt177.2.2.1 bt177.2.2.2.1 t163 t164 t165 t166).bind fun t183 => (if t183 = true then (if (bt177.2.2.2.2 != t167) = true then (some false) else (some true)) else (some false)))))) = some r := H
 have A5 := Aside0.mk A50
 clear A50
 replace H := Option.bind_eq_some_iff.mp H
 obtain ⟨⟨t169, t170, t171, t172⟩, A60, H⟩ := H
 replace H : ((laws_toBucket.f a1_0 a1_1 a1_2 a1_3).bind fun bt173 => ((impl_Merge.f t169 t170 t171 t172 bt173.1 bt173.2.1 bt173.2.2.1 bt173.2.2.2).bind fun bt177 => ((laws_eqBucket.f bt177.1 bt177.2.1 bt177.2.2.1 bt177.2.2.2.1 t163 t164 t165 t166).bind fun t183 => (if t183 = true then (if (bt177.2.2.2.2 != t167) = true then (some false) else (some true)) else (some false))))) = some r := H
 have A6 := Aside0.mk A60
 clear A60
 replace H := Option.bind_eq_some_iff.mp H
 obtain ⟨⟨t173, t174, t175, t176⟩, A70, H⟩ := H
 replace H : ((impl_Merge.f t169 t170 t171 t172 t173 t174 t175 t176).bind fun bt177 => ((laws_eqBucket.f bt177.1 bt177.2.1 bt177.2.2.1 bt177.2.2.2.1 t163 t164 t165 t166).bind fun t183 => (if t183 = true then (if (bt177.2.2.2.2 != t167) = true then (some false) else (some true)) else (some false)))) = some r := H
 have A7 := Aside0.mk A70
 clear A70
 replace H := Option.bind_eq_some_iff.mp H
 obtain ⟨⟨t177, t178, t179, t180, t181⟩, A80, H⟩ := H
 replace H : ((laws_eqBucket.f t177 t178 t179 t180 t163 t164 t165 t166).bind fun t183 => (if t183 = true then (if (t181 != t167) = true then (some false) else (some true)) else (some false))) = some r := H
 have A8 := Aside0.mk A80
 clear A80
 replace H := Option.bind_eq_some_iff.mp H
 obtain ⟨t183, A90, H⟩ := H
 replace H : (if t183 = true then (if (t181 != t167) = true then (some false) else (some true)) else (some false)) = some r := H
 have A9 := Aside0.mk A90
 clear A90
 by_cases c10 : t183 = true
 · subst c10
   have H1 : (if (t181 != t167) = true then (some false) else (some true)) = some r := by rw [if_pos rfl] at H; exact H
   clear H
   have H := H1
   clear H1
   by_cases c11 : (t181 != t167) = true
   · exact laws_FnExactMerge.calls_1 k a0_0 a0_1 a0_2 a0_3 a1_0 a1_1 a1_2 a1_3 r w t155 t156 t157 t158 A3 t159 t160 t161 t162 A4 t163 t164 t165 t166 t167 A5 t169 t170 t171 t172 A6 t173 t174 t175 t176 A7 t177 t178 t179 t180 t181 A8 A9 c11 H
   · exact laws_FnExactMerge.calls_2 k a0_0 a0_1 a0_2 a0_3 a1_0 a1_1 a1_2 a1_3 r w t155 t156 t157 t158 A3 t159 t160 t161 t162 A4 t163 t164 t165 t166 t167 A5 t169 t170 t171 t172 A6 t173 t174 t175 t176 A7 t177 t178 t179 t180 t181 A8 A9 c11 H
 · exact laws_FnExactMerge.calls_3 k a0_0 a0_1 a0_2 a0_3 a1_0 a1_1 a1_2 a1_3 r w t155 t156 t157 t158 A3 t159 t160 t161 t162 A4 t163 t164 t165 t166 t167 A5 t169 t170 t171 t172 A6 t173 t174 t175 t176 A7 t177 t178 t179 t180 t181 A8 t183 A9 c10 H
end Go.Proofs.Ytpomhmcehbefaaa.PFnExactMerge

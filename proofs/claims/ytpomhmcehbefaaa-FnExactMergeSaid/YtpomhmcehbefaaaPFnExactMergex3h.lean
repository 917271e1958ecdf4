-- Written by a program of this session (the print of the kit with contracts of this session's own added)
import Derived.Test.YtpomhmcehbefaaaPFnExactMergex0
import Derived.Test.YtpomhmcehbefaaaPFnExactMergex1
import Derived.Test.YtpomhmcehbefaaaPFnExactMergex2
namespace Go.Proofs.Ytpomhmcehbefaaa.PFnExactMerge
open Go.RowKit Go.Proofs.YtpomhmcehbefaaaW.PrintWords Go.Proofs.YtpomhmcehbefaaaW.PrintLast Go.Proofs.YtpomhmcehbefaaaW.PrintMore
attribute [local go_sem] max2_int min2_int max_two min_two max_three min_three max_four min_four   -- for this text's walks alone
set_option linter.unusedVariables false
set_option linter.unusedSimpArgs false

/-! ### laws_FnExactMerge: function 8 -/
def laws_FnExactMerge.f (k : Nat) (a0_0 : Int) (a0_1 : Int) (a0_2 : Int) (a0_3 : Int) (a1_0 : Int) (a1_1 : Int) (a1_2 : Int) (a1_3 : Int) : Option (Bool) := (laws_toBucket.f a0_0 a0_1 a0_2 a0_3).bind fun bt155 => ((laws_toBucket.f a1_0 a1_1 a1_2 a1_3).bind fun bt159 => ((spec_Merge.f k bt155.1 bt155.2.1 bt155.2.2.1 bt155.2.2.2 bt159.1 bt159.2.1 bt159.2.2.1 bt159.2.2.2).bind fun bt163 => ((laws_toBucket.f a0_0 a0_1 a0_2 a0_3).bind fun bt169 => ((laws_toBucket.f a1_0 a1_1 a1_2 a1_3).bind fun bt173 => ((impl_Merge.f bt169.1 bt169.2.1 bt169.2.2.1 bt169.2.2.2 bt173.1 bt173.2.1 bt173.2.2.1 bt173.2.2.2).bind fun bt177 => ((laws_eqBucket.f bt177.1 bt177.2.1 bt177.2.2.1 bt177.2.2.2.1 bt163.1 bt163.2.1 bt163.2.2.1 bt163.2.2.2.1).bind fun t183 => (if t183 = true then (if (bt177.2.2.2.2 != bt163.2.2.2.2) = true then (some false) else (some true)) else (some false))))))))
theorem laws_FnExactMerge.mono : ∀ a0 a1 a2 a3 a4 a5 a6 a7 k, LeO (laws_FnExactMerge.f k a0 a1 a2 a3 a4 a5 a6 a7) (laws_FnExactMerge.f (k + 1) a0 a1 a2 a3 a4 a5 a6 a7) := by
 intro a0 a1 a2 a3 a4 a5 a6 a7 k
 unfold laws_FnExactMerge.f
 repeat' first
  | (with_reducible exact spec_Merge.mono _ _ _ _ _ _ _ _ _)
  | (with_reducible exact LeO.refl _)
  | (with_reducible exact LeO.none _)
  | (with_reducible refine LeO.ite ?_ ?_)
  | (with_reducible refine LeO.bind ?_ (fun _ => ?_))
  | exact spec_Merge.mono _ _ _ _ _ _ _ _ _
  | exact LeO.none _
  | refine LeO.ite ?_ ?_
  | refine LeO.bind ?_ (fun _ => ?_)
def laws_FnExactMerge.T1 : Bool × List (List Nat × List Nat) := (true, [([], []), ([0], [0]), ([], []), ([2, 1], [2]), ([1, 3, 3], [1, 3]), ([4], [4]), ([5], [5]), ([5], [5]), ([], []), ([8, 6, 4, 0, 1, 2, 3, 4, 5, 6, 8], [6, 8]), ([7, 9, 0, 1, 2, 3, 4, 5, 6, 7, 8, 9], [7])])
def laws_FnExactMerge.B1 : List Nat := [0, 1, 0, 7, 15, 31, 63, 63, 0, 383, 1023]
theorem laws_FnExactMerge.tab1 : rtab .any (opsOf Try.f8 1) = laws_FnExactMerge.T1 := by kernel_rfl
theorem laws_FnExactMerge.bits1 : waitsOk laws_FnExactMerge.T1.2 laws_FnExactMerge.B1 = true := by kernel_rfl
def laws_FnExactMerge.T2 : Bool × List (List Nat × List Nat) := (true, [([], []), ([0], [0]), ([], []), ([2, 1], [2]), ([1, 3, 3], [1, 3]), ([4], [4]), ([5], [5]), ([5], [5]), ([], []), ([8, 6, 4, 0, 1, 2, 3, 4, 5, 6, 8], [6, 8]), ([7, 9, 0, 1, 2, 3, 4, 5, 6, 7, 8, 9], [7])])
def laws_FnExactMerge.B2 : List Nat := [0, 1, 0, 7, 15, 31, 63, 63, 0, 383, 1023]
theorem laws_FnExactMerge.tab2 : rtab .any (opsOf Try.f8 2) = laws_FnExactMerge.T2 := by kernel_rfl
theorem laws_FnExactMerge.bits2 : waitsOk laws_FnExactMerge.T2.2 laws_FnExactMerge.B2 = true := by kernel_rfl
end Go.Proofs.Ytpomhmcehbefaaa.PFnExactMerge

/- For all arguments the program's Merge answers what the reference's answers. No condition. -/
import Derived.Test.YtpomhmcehbefaaaRows
import Derived.Test.YtpomhmcehbefaaaPFnExactMergex
import Derived.Test.YtpomhmcehbefaaaPureFnExactMerge
import Derived.Test.YtpomhmcehbefaaaOp
import Derived.WalkKit
import Derived.ProofKit
import Derived.OpenShut
import Derived.ShutString
import Derived.ChangeOld
import Derived.Below
import Derived.Carry
import Derived.SizedLaws
import Derived.Lib.SmallJoins
namespace Go.Proofs.Ytpomhmcehbefaaa.fnExactMerge
open Go.ChangeShapes Go.WideShapes Go.ChangeAt Go.RowKit Go.Joins Go.Proofs.YtpomhmcehbefaaaW.PrintWords Opn
open Go.ChangeMaps (open_string shut_string)
set_option linter.unusedVariables false
theorem own : ownKnob Try.prog.godebug = none := by kernel_rfl
theorem laidOut : laidOutB Try.prog = true := by kernel_rfl
set_option maxRecDepth 100000 in
theorem lifted (os : Os) (started : os.Started) (H : Type) (enc : TypeId × Value → H) :
    ReturnsInHanded {} Try.checked os 8 .any (Rows.fnExactMergeSpec.pre6 enc Try.prog Try.f8 Rows.fnExactMergeRow.domain false) (Rows.fnExactMergeSpec.post enc Try.prog Try.f8 false true false false) := by
  refine returnsInHanded_of_change_sized (C := Try.checked) own started (by kernel_rfl) Try.func8
    (ChangeSpec.witness6 (enc := enc) (C := Try.checked) false ⟨#[], #[.agg #[.int .i64 0, .int .i64 0, .int .i64 0, .int .i64 0], .agg #[.int .i64 0, .int .i64 0, .int .i64 0, .int .i64 0]], []⟩ 8 (by kernel_rfl) (by kernel_rfl) (by kernel_rfl) (by kernel_rfl)) ?_
  intro W base args ds gs before hval0 hW hcnd hsz0 _
  have hsz : (DataW.weightsEach Try.prog (Try.f8.params.toList ++ Rows.fnExactMergeSpec.plain.varTypes Try.prog) (ds ++ gs)).all (· ≤ reachBytes) = true := hsz0
  have hval : ∀ (j : Nat) t v, Try.f8.params[j]? = some t → args[j]? = some v → Value.okWide Try.prog W .any base t v := hval0
  have hW' := hW
  obtain ⟨p, q, hA0, hV, rfl, hfz, hnd⟩ := hW
  have hA : DataW.TrodAll enc Try.prog W 0 (fun _ => true) true Try.f8.params.toList args.toList ds p := hA0
  rw [Try.params8] at hA hval hsz
  obtain ⟨v0, vs0, d0, ds0, p0, q0, hargs, rfl, rfl, h0, r0⟩ := trodAll_cons hA
  obtain ⟨v1, vs1, d1, ds1, p1, q1, rfl, rfl, rfl, h1, r1⟩ := trodAll_cons r0
  obtain ⟨rfl, rfl, rfl⟩ := trodAll_nil r1
  obtain rfl : args = #[v0, v1] := by cases args; simp_all
  obtain ⟨rfl, rfl⟩ := trodVars_none hV
  have k0 := h0
  have lt0 : ∀ x ∈ p0, x.block < W.heap.size := by obtain ⟨m, hm⟩ := k0; exact DataW.trod_lt m _ _ _ hm
  obtain ⟨cs0, rfl, hl0, n0, hf0⟩ := agg_fields Try.underlying68 (by kernel_rfl) (by kernel_rfl) (hval 0 68 v0 rfl rfl) h0
  obtain ⟨u0_0, y0_0, e0_0, t0_0⟩ := hf0 0 _ rfl
  obtain ⟨a0_0, rfl, w0_0⟩ := int_cell (k := .i64) (by kernel_rfl) t0_0
  obtain ⟨u0_1, y0_1, e0_1, t0_1⟩ := hf0 1 _ rfl
  obtain ⟨a0_1, rfl, w0_1⟩ := int_cell (k := .i64) (by kernel_rfl) t0_1
  obtain ⟨u0_2, y0_2, e0_2, t0_2⟩ := hf0 2 _ rfl
  obtain ⟨a0_2, rfl, w0_2⟩ := int_cell (k := .i64) (by kernel_rfl) t0_2
  obtain ⟨u0_3, y0_3, e0_3, t0_3⟩ := hf0 3 _ rfl
  obtain ⟨a0_3, rfl, w0_3⟩ := int_cell (k := .i64) (by kernel_rfl) t0_3
  obtain rfl := list4 hl0 e0_0 e0_1 e0_2 e0_3
  have k1 := h1
  have lt1 : ∀ x ∈ p1, x.block < W.heap.size := by obtain ⟨m, hm⟩ := k1; exact DataW.trod_lt m _ _ _ hm
  obtain ⟨cs1, rfl, hl1, n1, hf1⟩ := agg_fields Try.underlying68 (by kernel_rfl) (by kernel_rfl) (hval 1 68 v1 rfl rfl) h1
  obtain ⟨u1_0, y1_0, e1_0, t1_0⟩ := hf1 0 _ rfl
  obtain ⟨a1_0, rfl, w1_0⟩ := int_cell (k := .i64) (by kernel_rfl) t1_0
  obtain ⟨u1_1, y1_1, e1_1, t1_1⟩ := hf1 1 _ rfl
  obtain ⟨a1_1, rfl, w1_1⟩ := int_cell (k := .i64) (by kernel_rfl) t1_1
  obtain ⟨u1_2, y1_2, e1_2, t1_2⟩ := hf1 2 _ rfl
  obtain ⟨a1_2, rfl, w1_2⟩ := int_cell (k := .i64) (by kernel_rfl) t1_2
  obtain ⟨u1_3, y1_3, e1_3, t1_3⟩ := hf1 3 _ rfl
  obtain ⟨a1_3, rfl, w1_3⟩ := int_cell (k := .i64) (by kernel_rfl) t1_3
  obtain rfl := list4 hl1 e1_0 e1_1 e1_2 e1_3
  clear hA0 hval0 hsz0 hsz
  obtain ⟨k, hk⟩ := Pure.FnExactMerge a0_0 a0_1 a0_2 a0_3 a1_0 a1_1 a1_2 a1_3 w0_0 w0_1 w0_2 w0_3 w1_0 w1_1 w1_2 w1_3
  refine (PFnExactMerge.laws_FnExactMerge.calls k a0_0 a0_1 a0_2 a0_3 a1_0 a1_1 a1_2 a1_3 true W hk).mono fun e W' ⟨he, bel⟩ => ?_
  subst he
  exact ⟨_, rfl, _, _, _, [], _, [], hW', trodAll_mk1 (shut_bool Try.underlying4 _), (trodAll_cons_mk (Below.trod laidOut (by kernel_rfl) (of_decide_eq_true (by kernel_rfl)) k0 bel lt0) (trodAll_cons_mk (Below.trod laidOut (by kernel_rfl) (of_decide_eq_true (by kernel_rfl)) k1 bel lt1) trodAll_mk0)), rfl, bel.frame _, fun h => by cases h⟩
theorem over : Rows.fnExactMergeRow.holds Try.pinned (OpenSpec.ofChange Rows.fnExactMergeSpec) :=
  OpenClaim.holds_of_wide 8 Try.f8 rfl rfl rfl rfl rfl rfl rfl ⟨rfl, rfl, rfl, rfl, rfl⟩ rfl rfl rfl rfl rfl (by kernel_rfl) Try.func8 (by kernel_rfl)
    (of_decide_eq_true (by kernel_rfl)) (by unfold Func.isWrapper; first | (rw [if_pos (by decide +kernel)]; kernel_rfl) | (rw [if_neg (by decide +kernel)]; exact ⟨rfl, rfl⟩))
    (fun os started H enc _ => lifted os started H enc)
theorem proved : Rows.FnExactMergeSaid := over
#print axioms proved
end Go.Proofs.Ytpomhmcehbefaaa.fnExactMerge
namespace Go.Proofs.Ytpomhmcehbefaaa
/-- The row, under a short name, for the claim. -/
theorem fnExactMerge_holds : Rows.FnExactMergeSaid := fnExactMerge.proved
end Go.Proofs.Ytpomhmcehbefaaa

/- For all arguments the program's StepCost answers what the reference's answers. No condition. -/
import Derived.Test.YtoiidckbhpojmaaRows
import Derived.Test.YtoiidckbhpojmaaPFnExactStepCostx
import Derived.Test.YtoiidckbhpojmaaPureFnExactStepCost
import Derived.WalkKit
import Derived.ProofKit
import Derived.OpenShut
import Derived.ShutString
import Derived.ChangeOld
import Derived.Below
import Derived.Carry
import Derived.SizedLaws
import Derived.Lib.SmallJoins
namespace Go.Proofs.Ytoiidckbhpojmaa.fnExactStepCost
open Go.ChangeShapes Go.WideShapes Go.ChangeAt Go.RowKit Go.Joins
open Go.ChangeMaps (open_string shut_string)
set_option linter.unusedVariables false
theorem own : ownKnob Try.prog.godebug = none := by kernel_rfl
theorem laidOut : laidOutB Try.prog = true := by kernel_rfl
set_option maxRecDepth 100000 in
theorem lifted (os : Os) (started : os.Started) (H : Type) (enc : TypeId × Value → H) :
    ReturnsInHanded {} Try.checked os 4 .any (Rows.fnExactStepCostSpec.pre6 enc Try.prog Try.f4 Rows.fnExactStepCostRow.domain false) (Rows.fnExactStepCostSpec.post enc Try.prog Try.f4 false true false false) := by
  refine returnsInHanded_of_change_sized (C := Try.checked) own started (by kernel_rfl) Try.func4
    (ChangeSpec.witness6 (enc := enc) (C := Try.checked) false ⟨#[], #[.agg #[.int .i64 0, .int .i64 0, .int .i64 0]], []⟩ 8 (by kernel_rfl) (by kernel_rfl) (by kernel_rfl) (by kernel_rfl)) ?_
  intro W base args ds gs before hval0 hW hcnd hsz0 _
  have hsz : (DataW.weightsEach Try.prog (Try.f4.params.toList ++ Rows.fnExactStepCostSpec.plain.varTypes Try.prog) (ds ++ gs)).all (· ≤ reachBytes) = true := hsz0
  have hval : ∀ (j : Nat) t v, Try.f4.params[j]? = some t → args[j]? = some v → Value.okWide Try.prog W .any base t v := hval0
  have hW' := hW
  obtain ⟨p, q, hA0, hV, rfl, hfz, hnd⟩ := hW
  have hA : DataW.TrodAll enc Try.prog W 0 (fun _ => true) true Try.f4.params.toList args.toList ds p := hA0
  rw [Try.params4] at hA hval hsz
  obtain ⟨v0, vs0, d0, ds0, p0, q0, hargs, rfl, rfl, h0, r0⟩ := trodAll_cons hA
  obtain ⟨rfl, rfl, rfl⟩ := trodAll_nil r0
  obtain rfl : args = #[v0] := by cases args; simp_all
  obtain ⟨rfl, rfl⟩ := trodVars_none hV
  have k0 := h0
  have lt0 : ∀ x ∈ p0, x.block < W.heap.size := by obtain ⟨m, hm⟩ := k0; exact DataW.trod_lt m _ _ _ hm
  obtain ⟨c00, c01, c02, y00, y01, y02, m0, rfl, -, -, t00, t01, t02⟩ := open_agg3 Try.underlying29 (by kernel_rfl) (show Try.prog.cellsOf 29 = 3 by kernel_rfl) (hval 0 29 v0 rfl rfl) h0
  obtain ⟨a0_0, e00, -, w00⟩ := DataW.trod_int (k := .i64) (by kernel_rfl) t00
  obtain rfl := (List.cons.inj e00).1
  obtain ⟨a0_1, e01, -, w01⟩ := DataW.trod_int (k := .i64) (by kernel_rfl) t01
  obtain rfl := (List.cons.inj e01).1
  obtain ⟨a0_2, e02, -, w02⟩ := DataW.trod_int (k := .i64) (by kernel_rfl) t02
  obtain rfl := (List.cons.inj e02).1
  clear hA0 hval0 hsz0 hsz
  have hk := Pure.FnExactStepCost a0_0 a0_1 a0_2 w00 w01 w02
  refine (PFnExactStepCost.laws_FnExactStepCost.calls a0_0 a0_1 a0_2 true W hk).mono fun e W' ⟨he, bel⟩ => ?_
  subst he
  exact ⟨_, rfl, _, _, _, [], _, [], hW', trodAll_mk1 (shut_bool Try.underlying4 _), (trodAll_cons_mk (Below.trod laidOut (by kernel_rfl) (of_decide_eq_true (by kernel_rfl)) k0 bel lt0) trodAll_mk0), rfl, bel.frame _, fun h => by cases h⟩
theorem over : Rows.fnExactStepCostRow.holds Try.pinned (OpenSpec.ofChange Rows.fnExactStepCostSpec) :=
  OpenClaim.holds_of_wide 4 Try.f4 rfl rfl rfl rfl rfl rfl rfl ⟨rfl, rfl, rfl, rfl, rfl⟩ rfl rfl rfl rfl rfl (by kernel_rfl) Try.func4 (by kernel_rfl)
    (of_decide_eq_true (by kernel_rfl)) (by unfold Func.isWrapper; first | (rw [if_pos (by decide +kernel)]; kernel_rfl) | (rw [if_neg (by decide +kernel)]; exact ⟨rfl, rfl⟩))
    (fun os started H enc _ => lifted os started H enc)
theorem proved : Rows.FnExactStepCostSaid := over
#print axioms proved
end Go.Proofs.Ytoiidckbhpojmaa.fnExactStepCost
namespace Go.Proofs.Ytoiidckbhpojmaa
/-- The row, under a short name, for the claim. -/
theorem fnExactStepCost_holds : Rows.FnExactStepCostSaid := fnExactStepCost.proved
end Go.Proofs.Ytoiidckbhpojmaa

/-
  No cell of these rows narrows 'for every input' (looked for: loops, veiled, ifaces, maps, wideKeys, modest, calm, conditions, laid).
  DERIVED. THE GIVEN ROWS OF THIS SEAT. 6 by the template 'for every input the law returns true; each argument reads behind the call as it read before'; 0 by the template 'total and deterministic' (their statements: YtcjgiafjpbfglaaTotals.lean).
  GIVEN WITH THE SEED: the statements are not yours to turn. If you find one false, say at which input.
  Laid BY PROGRAM, IN A SANDBOX (cutbox-rows.mjs): the forced cells as the released guide's own fill.sh prints them over the translation 8177b979f9ac0e30… (all of the seat's roots in one cut). By AI agents, Wed Nov 11 2026. No macro, syntax, notation, axiom, sorry.
-/
import Derived.Test.YtcjgiafjpbfglaaChecked
import GoSem.Claim
import GoSem.ClaimJoined
import GoSem.ClaimMapViews
import Derived.JoinedTies
import Derived.KernelRfl
namespace Go.Proofs.Ytcjgiafjpbfglaa
/- THE CELL 'sum', in the pinned program and in every row, IS THE sha256 OF THE DUMP (.gsa) THAT YtcjgiafjpbfglaaProg.lean LOADS. Nothing in Lean hashes anything: it is a label: what it is worth is what the hold of that sum in a sandbox is worth. -/
noncomputable def Try.pinned : Pinned := { name := "ytcjgiafjpbfglaa", sum := "8177b979f9ac0e309876d851b70f3aeed2b323a09d4ebdf8c000c7ee90ff5821", checked := Try.checked }
namespace Rows
def none {H : Type} : Left H := { results := [], args := [] }

/-- 'laws.FnExactPlanCost': WHATEVER THE INPUT: true; the input reads as it did. -/
def fnExactPlanCostSpec : ChangeSpec := { name := "fnExactPlanCost", fn := fun _ => fun
  | [d] => { results := [.lit (.bool true)], args := [d] }
  | _ => none }
def fnExactPlanCostRow : OpenClaim := { program := "ytcjgiafjpbfglaa", sum := "8177b979f9ac0e309876d851b70f3aeed2b323a09d4ebdf8c000c7ee90ff5821", func := "loop.example/g00710/laws.FnExactPlanCost", spec := "fnExactPlanCost", plainKeys := false, apart := false }
def FnExactPlanCostSaid : Prop := fnExactPlanCostRow.holds Try.pinned (OpenSpec.ofChange fnExactPlanCostSpec)

/-- ITS FALSE NEIGHBOUR: 'it returns false'. Refute it at one input. -/
def fnExactPlanCostWrong : ChangeSpec := { name := "fnExactPlanCost", fn := fun _ => fun
  | [d] => { results := [.lit (.bool false)], args := [d] }
  | _ => none }
def FnExactPlanCostWrongFalsely : Prop := fnExactPlanCostRow.holds Try.pinned (OpenSpec.ofChange fnExactPlanCostWrong)

/-- 'laws.FnExactLevelOf': WHATEVER THE INPUT: true; the input reads as it did. -/
def fnExactLevelOfSpec : ChangeSpec := { name := "fnExactLevelOf", fn := fun _ => fun
  | [d1, d2] => { results := [.lit (.bool true)], args := [d1, d2] }
  | _ => none }
def fnExactLevelOfRow : OpenClaim := { program := "ytcjgiafjpbfglaa", sum := "8177b979f9ac0e309876d851b70f3aeed2b323a09d4ebdf8c000c7ee90ff5821", func := "loop.example/g00710/laws.FnExactLevelOf", spec := "fnExactLevelOf", plainKeys := false, apart := false }
def FnExactLevelOfSaid : Prop := fnExactLevelOfRow.holds Try.pinned (OpenSpec.ofChange fnExactLevelOfSpec)

/-- ITS FALSE NEIGHBOUR: 'it returns false'. Refute it at one input. -/
def fnExactLevelOfWrong : ChangeSpec := { name := "fnExactLevelOf", fn := fun _ => fun
  | [d1, d2] => { results := [.lit (.bool false)], args := [d1, d2] }
  | _ => none }
def FnExactLevelOfWrongFalsely : Prop := fnExactLevelOfRow.holds Try.pinned (OpenSpec.ofChange fnExactLevelOfWrong)

/-- 'laws.FnExactSwapSteps': WHATEVER THE INPUT: true; the input reads as it did. -/
def fnExactSwapStepsSpec : ChangeSpec := { name := "fnExactSwapSteps", fn := fun _ => fun
  | [d1, d2] => { results := [.lit (.bool true)], args := [d1, d2] }
  | _ => none }
def fnExactSwapStepsRow : OpenClaim := { program := "ytcjgiafjpbfglaa", sum := "8177b979f9ac0e309876d851b70f3aeed2b323a09d4ebdf8c000c7ee90ff5821", func := "loop.example/g00710/laws.FnExactSwapSteps", spec := "fnExactSwapSteps", plainKeys := false, apart := false }
def FnExactSwapStepsSaid : Prop := fnExactSwapStepsRow.holds Try.pinned (OpenSpec.ofChange fnExactSwapStepsSpec)

/-- ITS FALSE NEIGHBOUR: 'it returns false'. Refute it at one input. -/
def fnExactSwapStepsWrong : ChangeSpec := { name := "fnExactSwapSteps", fn := fun _ => fun
  | [d1, d2] => { results := [.lit (.bool false)], args := [d1, d2] }
  | _ => none }
def FnExactSwapStepsWrongFalsely : Prop := fnExactSwapStepsRow.holds Try.pinned (OpenSpec.ofChange fnExactSwapStepsWrong)

/-- 'laws.FnExactMakespan': WHATEVER THE INPUT: true; the input reads as it did. -/
def fnExactMakespanSpec : ChangeSpec := { name := "fnExactMakespan", fn := fun _ => fun
  | [d1, d2] => { results := [.lit (.bool true)], args := [d1, d2] }
  | _ => none }
def fnExactMakespanRow : OpenClaim := { program := "ytcjgiafjpbfglaa", sum := "8177b979f9ac0e309876d851b70f3aeed2b323a09d4ebdf8c000c7ee90ff5821", func := "loop.example/g00710/laws.FnExactMakespan", spec := "fnExactMakespan", plainKeys := false, apart := false }
def FnExactMakespanSaid : Prop := fnExactMakespanRow.holds Try.pinned (OpenSpec.ofChange fnExactMakespanSpec)

/-- ITS FALSE NEIGHBOUR: 'it returns false'. Refute it at one input. -/
def fnExactMakespanWrong : ChangeSpec := { name := "fnExactMakespan", fn := fun _ => fun
  | [d1, d2] => { results := [.lit (.bool false)], args := [d1, d2] }
  | _ => none }
def FnExactMakespanWrongFalsely : Prop := fnExactMakespanRow.holds Try.pinned (OpenSpec.ofChange fnExactMakespanWrong)

/-- 'laws.FnExactSplitPlan': WHATEVER THE INPUT: true; the input reads as it did. -/
def fnExactSplitPlanSpec : ChangeSpec := { name := "fnExactSplitPlan", fn := fun _ => fun
  | [d1, d2] => { results := [.lit (.bool true)], args := [d1, d2] }
  | _ => none }
def fnExactSplitPlanRow : OpenClaim := { program := "ytcjgiafjpbfglaa", sum := "8177b979f9ac0e309876d851b70f3aeed2b323a09d4ebdf8c000c7ee90ff5821", func := "loop.example/g00710/laws.FnExactSplitPlan", spec := "fnExactSplitPlan", plainKeys := false, apart := false }
def FnExactSplitPlanSaid : Prop := fnExactSplitPlanRow.holds Try.pinned (OpenSpec.ofChange fnExactSplitPlanSpec)

/-- ITS FALSE NEIGHBOUR: 'it returns false'. Refute it at one input. -/
def fnExactSplitPlanWrong : ChangeSpec := { name := "fnExactSplitPlan", fn := fun _ => fun
  | [d1, d2] => { results := [.lit (.bool false)], args := [d1, d2] }
  | _ => none }
def FnExactSplitPlanWrongFalsely : Prop := fnExactSplitPlanRow.holds Try.pinned (OpenSpec.ofChange fnExactSplitPlanWrong)

/-- 'laws.FnExactDeal': WHATEVER THE INPUT: true; the input reads as it did. -/
def fnExactDealSpec : ChangeSpec := { name := "fnExactDeal", fn := fun _ => fun
  | [d1, d2] => { results := [.lit (.bool true)], args := [d1, d2] }
  | _ => none }
def fnExactDealRow : OpenClaim := { program := "ytcjgiafjpbfglaa", sum := "8177b979f9ac0e309876d851b70f3aeed2b323a09d4ebdf8c000c7ee90ff5821", func := "loop.example/g00710/laws.FnExactDeal", spec := "fnExactDeal", plainKeys := false, apart := false }
def FnExactDealSaid : Prop := fnExactDealRow.holds Try.pinned (OpenSpec.ofChange fnExactDealSpec)

/-- ITS FALSE NEIGHBOUR: 'it returns false'. Refute it at one input. -/
def fnExactDealWrong : ChangeSpec := { name := "fnExactDeal", fn := fun _ => fun
  | [d1, d2] => { results := [.lit (.bool false)], args := [d1, d2] }
  | _ => none }
def FnExactDealWrongFalsely : Prop := fnExactDealRow.holds Try.pinned (OpenSpec.ofChange fnExactDealWrong)

/- THE SECOND FORM. 'bulk': how many values and letters a reading holds, each counted each time it is reached (what is shared counts as often as it is met; a slice's spare places count too). A statement '..UptoSaid' is the law's where the arguments, and the package variables that the reading takes, are together of bulk at most 1048576: NARROWER than '..Said'. Prove '..Said' where nothing that the law and all that it calls make is longer than what came in: it says more and counts as full. Else prove '..UptoSaid'. A law counts once. -/
mutual
def uptoBulk {H : Type} : DataW H → Nat
  | .lit (.string bytes) => bytes.length + 1
  | .lit _ => 1
  | .nil => 1
  | .ptr d => uptoBulk d + 1
  | .slice elems spare => uptoBulkAll elems + uptoBulkAll spare + 1
  | .agg parts => uptoBulkAll parts + 1
  | .iface _ d => uptoBulk d + 1
  | .map entries => uptoBulkEntries entries + 1
  | .held _ => 1
def uptoBulkAll {H : Type} : List (DataW H) → Nat
  | [] => 0
  | d :: r => uptoBulk d + uptoBulkAll r
def uptoBulkEntries {H : Type} : List (Lit × DataW H) → Nat
  | [] => 0
  | x :: r => uptoBulkEntry x + uptoBulkEntries r
def uptoBulkEntry {H : Type} : Lit × DataW H → Nat
  | (.string bytes, d) => bytes.length + uptoBulk d + 1
  | (_, d) => uptoBulk d + 1
 end
def uptoSmall : (H : Type) → List (DataW H) → Bool := fun _ ds => decide (uptoBulkAll ds ≤ 1048576)
def OpenSpec.upto (s : _root_.Go.ChangeSpec) : _root_.Go.OpenSpec := { _root_.Go.OpenSpec.ofChange s with cond := some uptoSmall }

/-- 'laws.FnExactPlanCost', WHERE WHAT IT READS IS OF BULK AT MOST 1048576: true; the input reads as it did. -/
def fnExactPlanCostUptoRow : OpenClaim := { program := "ytcjgiafjpbfglaa", sum := "8177b979f9ac0e309876d851b70f3aeed2b323a09d4ebdf8c000c7ee90ff5821", func := "loop.example/g00710/laws.FnExactPlanCost", spec := "fnExactPlanCost", plainKeys := false, apart := false, narrowed := true }
def FnExactPlanCostUptoSaid : Prop := fnExactPlanCostUptoRow.holds Try.pinned (OpenSpec.upto fnExactPlanCostSpec)

/-- 'laws.FnExactLevelOf', WHERE WHAT IT READS IS OF BULK AT MOST 1048576: true; the input reads as it did. -/
def fnExactLevelOfUptoRow : OpenClaim := { program := "ytcjgiafjpbfglaa", sum := "8177b979f9ac0e309876d851b70f3aeed2b323a09d4ebdf8c000c7ee90ff5821", func := "loop.example/g00710/laws.FnExactLevelOf", spec := "fnExactLevelOf", plainKeys := false, apart := false, narrowed := true }
def FnExactLevelOfUptoSaid : Prop := fnExactLevelOfUptoRow.holds Try.pinned (OpenSpec.upto fnExactLevelOfSpec)

/-- 'laws.FnExactSwapSteps', WHERE WHAT IT READS IS OF BULK AT MOST 1048576: true; the input reads as it did. -/
def fnExactSwapStepsUptoRow : OpenClaim := { program := "ytcjgiafjpbfglaa", sum := "8177b979f9ac0e309876d851b70f3aeed2b323a09d4ebdf8c000c7ee90ff5821", func := "loop.example/g00710/laws.FnExactSwapSteps", spec := "fnExactSwapSteps", plainKeys := false, apart := false, narrowed := true }
def FnExactSwapStepsUptoSaid : Prop := fnExactSwapStepsUptoRow.holds Try.pinned (OpenSpec.upto fnExactSwapStepsSpec)

/-- 'laws.FnExactMakespan', WHERE WHAT IT READS IS OF BULK AT MOST 1048576: true; the input reads as it did. -/
def fnExactMakespanUptoRow : OpenClaim := { program := "ytcjgiafjpbfglaa", sum := "8177b979f9ac0e309876d851b70f3aeed2b323a09d4ebdf8c000c7ee90ff5821", func := "loop.example/g00710/laws.FnExactMakespan", spec := "fnExactMakespan", plainKeys := false, apart := false, narrowed := true }
def FnExactMakespanUptoSaid : Prop := fnExactMakespanUptoRow.holds Try.pinned (OpenSpec.upto fnExactMakespanSpec)

/-- 'laws.FnExactSplitPlan', WHERE WHAT IT READS IS OF BULK AT MOST 1048576: true; the input reads as it did. -/
def fnExactSplitPlanUptoRow : OpenClaim := { program := "ytcjgiafjpbfglaa", sum := "8177b979f9ac0e309876d851b70f3aeed2b323a09d4ebdf8c000c7ee90ff5821", func := "loop.example/g00710/laws.FnExactSplitPlan", spec := "fnExactSplitPlan", plainKeys := false, apart := false, narrowed := true }
def FnExactSplitPlanUptoSaid : Prop := fnExactSplitPlanUptoRow.holds Try.pinned (OpenSpec.upto fnExactSplitPlanSpec)

/-- 'laws.FnExactDeal', WHERE WHAT IT READS IS OF BULK AT MOST 1048576: true; the input reads as it did. -/
def fnExactDealUptoRow : OpenClaim := { program := "ytcjgiafjpbfglaa", sum := "8177b979f9ac0e309876d851b70f3aeed2b323a09d4ebdf8c000c7ee90ff5821", func := "loop.example/g00710/laws.FnExactDeal", spec := "fnExactDeal", plainKeys := false, apart := false, narrowed := true }
def FnExactDealUptoSaid : Prop := fnExactDealUptoRow.holds Try.pinned (OpenSpec.upto fnExactDealSpec)

end Rows
end Go.Proofs.Ytcjgiafjpbfglaa

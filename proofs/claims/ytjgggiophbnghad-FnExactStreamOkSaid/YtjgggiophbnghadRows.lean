/-
  No cell of these rows narrows 'for every input' (looked for: loops, veiled, ifaces, maps, wideKeys, modest, calm, conditions, laid).
  DERIVED. THE GIVEN ROWS OF THIS SEAT. 6 by the template 'for every input the law returns true; each argument reads behind the call as it read before'; 0 by the template 'total and deterministic' (their statements: YtjgggiophbnghadTotals.lean).
  GIVEN WITH THE SEED: the statements are not yours to turn. If you find one false, say at which input.
  Laid BY PROGRAM, IN A SANDBOX (cutbox-rows.mjs): the forced cells as the released guide's own fill.sh prints them over the translation 6a04764b943fc360… (all of the seat's roots in one cut). By AI agents, Wed Nov 11 2026. No macro, syntax, notation, axiom, sorry.
-/
import Derived.Test.YtjgggiophbnghadChecked
import GoSem.Claim
import GoSem.ClaimJoined
import GoSem.ClaimMapViews
import Derived.JoinedTies
import Derived.KernelRfl
namespace Go.Proofs.Ytjgggiophbnghad
/- THE CELL 'sum', in the pinned program and in every row, IS THE sha256 OF THE DUMP (.gsa) THAT YtjgggiophbnghadProg.lean LOADS. Nothing in Lean hashes anything: it is a label: what it is worth is what the hold of that sum in a sandbox is worth. -/
noncomputable def Try.pinned : Pinned := { name := "ytjgggiophbnghad", sum := "6a04764b943fc360a680913e5ec88c9c5566d69f1f3ffada7222ec7e2186958a", checked := Try.checked }
namespace Rows
def none {H : Type} : Left H := { results := [], args := [] }

/-- 'laws.FnExactPlanCost': WHATEVER THE INPUT: true; the input reads as it did. -/
def fnExactPlanCostSpec : ChangeSpec := { name := "fnExactPlanCost", fn := fun _ => fun
  | [d] => { results := [.lit (.bool true)], args := [d] }
  | _ => none }
def fnExactPlanCostRow : OpenClaim := { program := "ytjgggiophbnghad", sum := "6a04764b943fc360a680913e5ec88c9c5566d69f1f3ffada7222ec7e2186958a", func := "loop.example/g00710/laws.FnExactPlanCost", spec := "fnExactPlanCost", apart := false }
def FnExactPlanCostSaid : Prop := fnExactPlanCostRow.holds Try.pinned (OpenSpec.ofChange fnExactPlanCostSpec)

/-- ITS FALSE NEIGHBOUR: 'it returns false'. Refute it at one input. -/
def fnExactPlanCostWrong : ChangeSpec := { name := "fnExactPlanCost", fn := fun _ => fun
  | [d] => { results := [.lit (.bool false)], args := [d] }
  | _ => none }
def FnExactPlanCostWrongFalsely : Prop := fnExactPlanCostRow.holds Try.pinned (OpenSpec.ofChange fnExactPlanCostWrong)

/-- 'laws.FnExactLevelOf': WHATEVER THE INPUT: true; the input reads as it did. -/
def fnExactLevelOfSpec : ChangeSpec := { name := "fnExactLevelOf", fn := fun _ => fun
  | [d1, d2] => { results := [.lit (.bool true)], args := [d1, d2] }
  | _ => none }
def fnExactLevelOfRow : OpenClaim := { program := "ytjgggiophbnghad", sum := "6a04764b943fc360a680913e5ec88c9c5566d69f1f3ffada7222ec7e2186958a", func := "loop.example/g00710/laws.FnExactLevelOf", spec := "fnExactLevelOf", apart := false }
def FnExactLevelOfSaid : Prop := fnExactLevelOfRow.holds Try.pinned (OpenSpec.ofChange fnExactLevelOfSpec)

/-- ITS FALSE NEIGHBOUR: 'it returns false'. Refute it at one input. -/
def fnExactLevelOfWrong : ChangeSpec := { name := "fnExactLevelOf", fn := fun _ => fun
  | [d1, d2] => { results := [.lit (.bool false)], args := [d1, d2] }
  | _ => none }
def FnExactLevelOfWrongFalsely : Prop := fnExactLevelOfRow.holds Try.pinned (OpenSpec.ofChange fnExactLevelOfWrong)

/-- 'laws.FnExactDecodeFrame': WHATEVER THE INPUT: true; the input reads as it did. -/
def fnExactDecodeFrameSpec : ChangeSpec := { name := "fnExactDecodeFrame", fn := fun _ => fun
  | [d] => { results := [.lit (.bool true)], args := [d] }
  | _ => none }
def fnExactDecodeFrameRow : OpenClaim := { program := "ytjgggiophbnghad", sum := "6a04764b943fc360a680913e5ec88c9c5566d69f1f3ffada7222ec7e2186958a", func := "loop.example/g00710/laws.FnExactDecodeFrame", spec := "fnExactDecodeFrame", apart := false }
def FnExactDecodeFrameSaid : Prop := fnExactDecodeFrameRow.holds Try.pinned (OpenSpec.ofChange fnExactDecodeFrameSpec)

/-- ITS FALSE NEIGHBOUR: 'it returns false'. Refute it at one input. -/
def fnExactDecodeFrameWrong : ChangeSpec := { name := "fnExactDecodeFrame", fn := fun _ => fun
  | [d] => { results := [.lit (.bool false)], args := [d] }
  | _ => none }
def FnExactDecodeFrameWrongFalsely : Prop := fnExactDecodeFrameRow.holds Try.pinned (OpenSpec.ofChange fnExactDecodeFrameWrong)

/-- 'laws.FnExactStreamOk': WHATEVER THE INPUT: true; the input reads as it did. -/
def fnExactStreamOkSpec : ChangeSpec := { name := "fnExactStreamOk", fn := fun _ => fun
  | [d] => { results := [.lit (.bool true)], args := [d] }
  | _ => none }
def fnExactStreamOkRow : OpenClaim := { program := "ytjgggiophbnghad", sum := "6a04764b943fc360a680913e5ec88c9c5566d69f1f3ffada7222ec7e2186958a", func := "loop.example/g00710/laws.FnExactStreamOk", spec := "fnExactStreamOk", apart := false }
def FnExactStreamOkSaid : Prop := fnExactStreamOkRow.holds Try.pinned (OpenSpec.ofChange fnExactStreamOkSpec)

/-- ITS FALSE NEIGHBOUR: 'it returns false'. Refute it at one input. -/
def fnExactStreamOkWrong : ChangeSpec := { name := "fnExactStreamOk", fn := fun _ => fun
  | [d] => { results := [.lit (.bool false)], args := [d] }
  | _ => none }
def FnExactStreamOkWrongFalsely : Prop := fnExactStreamOkRow.holds Try.pinned (OpenSpec.ofChange fnExactStreamOkWrong)

/-- 'laws.FnCeiling': WHATEVER THE INPUT: true; the input reads as it did. -/
def fnCeilingSpec : ChangeSpec := { name := "fnCeiling", fn := fun _ => fun
  | [d] => { results := [.lit (.bool true)], args := [d] }
  | _ => none }
def fnCeilingRow : OpenClaim := { program := "ytjgggiophbnghad", sum := "6a04764b943fc360a680913e5ec88c9c5566d69f1f3ffada7222ec7e2186958a", func := "loop.example/g00710/laws.FnCeiling", spec := "fnCeiling", apart := false }
def FnCeilingSaid : Prop := fnCeilingRow.holds Try.pinned (OpenSpec.ofChange fnCeilingSpec)

/-- ITS FALSE NEIGHBOUR: 'it returns false'. Refute it at one input. -/
def fnCeilingWrong : ChangeSpec := { name := "fnCeiling", fn := fun _ => fun
  | [d] => { results := [.lit (.bool false)], args := [d] }
  | _ => none }
def FnCeilingWrongFalsely : Prop := fnCeilingRow.holds Try.pinned (OpenSpec.ofChange fnCeilingWrong)

/-- 'laws.FnExactSwapSteps': WHATEVER THE INPUT: true; the input reads as it did. -/
def fnExactSwapStepsSpec : ChangeSpec := { name := "fnExactSwapSteps", fn := fun _ => fun
  | [d1, d2] => { results := [.lit (.bool true)], args := [d1, d2] }
  | _ => none }
def fnExactSwapStepsRow : OpenClaim := { program := "ytjgggiophbnghad", sum := "6a04764b943fc360a680913e5ec88c9c5566d69f1f3ffada7222ec7e2186958a", func := "loop.example/g00710/laws.FnExactSwapSteps", spec := "fnExactSwapSteps", apart := false }
def FnExactSwapStepsSaid : Prop := fnExactSwapStepsRow.holds Try.pinned (OpenSpec.ofChange fnExactSwapStepsSpec)

/-- ITS FALSE NEIGHBOUR: 'it returns false'. Refute it at one input. -/
def fnExactSwapStepsWrong : ChangeSpec := { name := "fnExactSwapSteps", fn := fun _ => fun
  | [d1, d2] => { results := [.lit (.bool false)], args := [d1, d2] }
  | _ => none }
def FnExactSwapStepsWrongFalsely : Prop := fnExactSwapStepsRow.holds Try.pinned (OpenSpec.ofChange fnExactSwapStepsWrong)

/- THE SECOND FORM. 'bulk': how many values and letters a reading holds, each counted each time it is reached (what is shared counts as often as it is met; a slice's spare places count too). A statement '..UptoSaid' is the law's where the arguments, and the package variables that the reading takes, are together of bulk at most 1048576: NARROWER than '..Said'. Prove '..Said' where nothing that the law and all that it calls make is longer than what came in: it says more and counts as full. Else prove '..UptoSaid'. A law counts once. -/
mutual
def uptoBulk {H : Type} : DataW H → Nat
  | .lit (.string bytes) => bytes.length + 1
  | .lit _ => 1
  | .nil => 1
  | .ptr d => uptoBulk d + 1
  | .slice elems spare => uptoBulkAll elems + uptoBulkAll spare + 1
  | .agg parts => uptoBulkAll parts + 1
  | .iface _ d => uptoBulk d + 1
  | .map entries => uptoBulkEntries entries + 1
  | .held _ => 1
def uptoBulkAll {H : Type} : List (DataW H) → Nat
  | [] => 0
  | d :: r => uptoBulk d + uptoBulkAll r
def uptoBulkEntries {H : Type} : List (Lit × DataW H) → Nat
  | [] => 0
  | x :: r => uptoBulkEntry x + uptoBulkEntries r
def uptoBulkEntry {H : Type} : Lit × DataW H → Nat
  | (.string bytes, d) => bytes.length + uptoBulk d + 1
  | (_, d) => uptoBulk d + 1
 end
def uptoSmall : (H : Type) → List (DataW H) → Bool := fun _ ds => decide (uptoBulkAll ds ≤ 1048576)
def OpenSpec.upto (s : _root_.Go.ChangeSpec) : _root_.Go.OpenSpec := { _root_.Go.OpenSpec.ofChange s with cond := some uptoSmall }

/-- 'laws.FnExactPlanCost', WHERE WHAT IT READS IS OF BULK AT MOST 1048576: true; the input reads as it did. -/
def fnExactPlanCostUptoRow : OpenClaim := { program := "ytjgggiophbnghad", sum := "6a04764b943fc360a680913e5ec88c9c5566d69f1f3ffada7222ec7e2186958a", func := "loop.example/g00710/laws.FnExactPlanCost", spec := "fnExactPlanCost", apart := false, narrowed := true }
def FnExactPlanCostUptoSaid : Prop := fnExactPlanCostUptoRow.holds Try.pinned (OpenSpec.upto fnExactPlanCostSpec)

/-- 'laws.FnExactLevelOf', WHERE WHAT IT READS IS OF BULK AT MOST 1048576: true; the input reads as it did. -/
def fnExactLevelOfUptoRow : OpenClaim := { program := "ytjgggiophbnghad", sum := "6a04764b943fc360a680913e5ec88c9c5566d69f1f3ffada7222ec7e2186958a", func := "loop.example/g00710/laws.FnExactLevelOf", spec := "fnExactLevelOf", apart := false, narrowed := true }
def FnExactLevelOfUptoSaid : Prop := fnExactLevelOfUptoRow.holds Try.pinned (OpenSpec.upto fnExactLevelOfSpec)

/-- 'laws.FnExactDecodeFrame', WHERE WHAT IT READS IS OF BULK AT MOST 1048576: true; the input reads as it did. -/
def fnExactDecodeFrameUptoRow : OpenClaim := { program := "ytjgggiophbnghad", sum := "6a04764b943fc360a680913e5ec88c9c5566d69f1f3ffada7222ec7e2186958a", func := "loop.example/g00710/laws.FnExactDecodeFrame", spec := "fnExactDecodeFrame", apart := false, narrowed := true }
def FnExactDecodeFrameUptoSaid : Prop := fnExactDecodeFrameUptoRow.holds Try.pinned (OpenSpec.upto fnExactDecodeFrameSpec)

/-- 'laws.FnExactStreamOk', WHERE WHAT IT READS IS OF BULK AT MOST 1048576: true; the input reads as it did. -/
def fnExactStreamOkUptoRow : OpenClaim := { program := "ytjgggiophbnghad", sum := "6a04764b943fc360a680913e5ec88c9c5566d69f1f3ffada7222ec7e2186958a", func := "loop.example/g00710/laws.FnExactStreamOk", spec := "fnExactStreamOk", apart := false, narrowed := true }
def FnExactStreamOkUptoSaid : Prop := fnExactStreamOkUptoRow.holds Try.pinned (OpenSpec.upto fnExactStreamOkSpec)

/-- 'laws.FnCeiling', WHERE WHAT IT READS IS OF BULK AT MOST 1048576: true; the input reads as it did. -/
def fnCeilingUptoRow : OpenClaim := { program := "ytjgggiophbnghad", sum := "6a04764b943fc360a680913e5ec88c9c5566d69f1f3ffada7222ec7e2186958a", func := "loop.example/g00710/laws.FnCeiling", spec := "fnCeiling", apart := false, narrowed := true }
def FnCeilingUptoSaid : Prop := fnCeilingUptoRow.holds Try.pinned (OpenSpec.upto fnCeilingSpec)

/-- 'laws.FnExactSwapSteps', WHERE WHAT IT READS IS OF BULK AT MOST 1048576: true; the input reads as it did. -/
def fnExactSwapStepsUptoRow : OpenClaim := { program := "ytjgggiophbnghad", sum := "6a04764b943fc360a680913e5ec88c9c5566d69f1f3ffada7222ec7e2186958a", func := "loop.example/g00710/laws.FnExactSwapSteps", spec := "fnExactSwapSteps", apart := false, narrowed := true }
def FnExactSwapStepsUptoSaid : Prop := fnExactSwapStepsUptoRow.holds Try.pinned (OpenSpec.upto fnExactSwapStepsSpec)

end Rows
end Go.Proofs.Ytjgggiophbnghad

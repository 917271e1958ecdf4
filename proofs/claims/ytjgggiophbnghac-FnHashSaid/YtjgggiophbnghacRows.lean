/-
  No cell of these rows narrows 'for every input' (looked for: loops, veiled, ifaces, maps, wideKeys, modest, calm, conditions, laid).
  DERIVED. THE GIVEN ROWS OF THIS SEAT. 6 by the template 'for every input the law returns true; each argument reads behind the call as it read before'; 0 by the template 'total and deterministic' (their statements: YtjgggiophbnghacTotals.lean).
  GIVEN WITH THE SEED: the statements are not yours to turn. If you find one false, say at which input.
  Laid BY PROGRAM, IN A SANDBOX (cutbox-rows.mjs): the forced cells as the released guide's own fill.sh prints them over the translation 6658e9bc4ddedc0e… (all of the seat's roots in one cut). By AI agents, Wed Nov 11 2026. No macro, syntax, notation, axiom, sorry.
-/
import Derived.Test.YtjgggiophbnghacChecked
import GoSem.Claim
import GoSem.ClaimJoined
import GoSem.ClaimMapViews
import Derived.JoinedTies
import Derived.KernelRfl
namespace Go.Proofs.Ytjgggiophbnghac
/- THE CELL 'sum', in the pinned program and in every row, IS THE sha256 OF THE DUMP (.gsa) THAT YtjgggiophbnghacProg.lean LOADS. Nothing in Lean hashes anything: it is a label: what it is worth is what the hold of that sum in a sandbox is worth. -/
noncomputable def Try.pinned : Pinned := { name := "ytjgggiophbnghac", sum := "6658e9bc4ddedc0e6a3339d8811f39a88335133e55a0f3c4ce45f33ec52b006d", checked := Try.checked }
namespace Rows
def none {H : Type} : Left H := { results := [], args := [] }

/-- 'laws.FnHash': WHATEVER THE INPUT: true; the input reads as it did. -/
def fnHashSpec : ChangeSpec := { name := "fnHash", fn := fun _ => fun
  | [d] => { results := [.lit (.bool true)], args := [d] }
  | _ => none }
def fnHashRow : OpenClaim := { program := "ytjgggiophbnghac", sum := "6658e9bc4ddedc0e6a3339d8811f39a88335133e55a0f3c4ce45f33ec52b006d", func := "loop.example/g00710/laws.FnHash", spec := "fnHash", apart := false }
def FnHashSaid : Prop := fnHashRow.holds Try.pinned (OpenSpec.ofChange fnHashSpec)

/-- ITS FALSE NEIGHBOUR: 'it returns false'. Refute it at one input. -/
def fnHashWrong : ChangeSpec := { name := "fnHash", fn := fun _ => fun
  | [d] => { results := [.lit (.bool false)], args := [d] }
  | _ => none }
def FnHashWrongFalsely : Prop := fnHashRow.holds Try.pinned (OpenSpec.ofChange fnHashWrong)

/-- 'laws.FnFillTwice': WHATEVER THE INPUT: true; the input reads as it did. -/
def fnFillTwiceSpec : ChangeSpec := { name := "fnFillTwice", fn := fun _ => fun
  | [d] => { results := [.lit (.bool true)], args := [d] }
  | _ => none }
def fnFillTwiceRow : OpenClaim := { program := "ytjgggiophbnghac", sum := "6658e9bc4ddedc0e6a3339d8811f39a88335133e55a0f3c4ce45f33ec52b006d", func := "loop.example/g00710/laws.FnFillTwice", spec := "fnFillTwice", apart := false }
def FnFillTwiceSaid : Prop := fnFillTwiceRow.holds Try.pinned (OpenSpec.ofChange fnFillTwiceSpec)

/-- ITS FALSE NEIGHBOUR: 'it returns false'. Refute it at one input. -/
def fnFillTwiceWrong : ChangeSpec := { name := "fnFillTwice", fn := fun _ => fun
  | [d] => { results := [.lit (.bool false)], args := [d] }
  | _ => none }
def FnFillTwiceWrongFalsely : Prop := fnFillTwiceRow.holds Try.pinned (OpenSpec.ofChange fnFillTwiceWrong)

/-- 'laws.FnExactHashBytes': WHATEVER THE INPUT: true; the input reads as it did. -/
def fnExactHashBytesSpec : ChangeSpec := { name := "fnExactHashBytes", fn := fun _ => fun
  | [d] => { results := [.lit (.bool true)], args := [d] }
  | _ => none }
def fnExactHashBytesRow : OpenClaim := { program := "ytjgggiophbnghac", sum := "6658e9bc4ddedc0e6a3339d8811f39a88335133e55a0f3c4ce45f33ec52b006d", func := "loop.example/g00710/laws.FnExactHashBytes", spec := "fnExactHashBytes", apart := false }
def FnExactHashBytesSaid : Prop := fnExactHashBytesRow.holds Try.pinned (OpenSpec.ofChange fnExactHashBytesSpec)

/-- ITS FALSE NEIGHBOUR: 'it returns false'. Refute it at one input. -/
def fnExactHashBytesWrong : ChangeSpec := { name := "fnExactHashBytes", fn := fun _ => fun
  | [d] => { results := [.lit (.bool false)], args := [d] }
  | _ => none }
def FnExactHashBytesWrongFalsely : Prop := fnExactHashBytesRow.holds Try.pinned (OpenSpec.ofChange fnExactHashBytesWrong)

/-- 'laws.FnExactMakePlan': WHATEVER THE INPUT: true; the input reads as it did. -/
def fnExactMakePlanSpec : ChangeSpec := { name := "fnExactMakePlan", fn := fun _ => fun
  | [d1, d2, d3] => { results := [.lit (.bool true)], args := [d1, d2, d3] }
  | _ => none }
def fnExactMakePlanRow : OpenClaim := { program := "ytjgggiophbnghac", sum := "6658e9bc4ddedc0e6a3339d8811f39a88335133e55a0f3c4ce45f33ec52b006d", func := "loop.example/g00710/laws.FnExactMakePlan", spec := "fnExactMakePlan", apart := false }
def FnExactMakePlanSaid : Prop := fnExactMakePlanRow.holds Try.pinned (OpenSpec.ofChange fnExactMakePlanSpec)

/-- ITS FALSE NEIGHBOUR: 'it returns false'. Refute it at one input. -/
def fnExactMakePlanWrong : ChangeSpec := { name := "fnExactMakePlan", fn := fun _ => fun
  | [d1, d2, d3] => { results := [.lit (.bool false)], args := [d1, d2, d3] }
  | _ => none }
def FnExactMakePlanWrongFalsely : Prop := fnExactMakePlanRow.holds Try.pinned (OpenSpec.ofChange fnExactMakePlanWrong)

/-- 'laws.FnExactPlanOk': WHATEVER THE INPUT: true; the input reads as it did. -/
def fnExactPlanOkSpec : ChangeSpec := { name := "fnExactPlanOk", fn := fun _ => fun
  | [d] => { results := [.lit (.bool true)], args := [d] }
  | _ => none }
def fnExactPlanOkRow : OpenClaim := { program := "ytjgggiophbnghac", sum := "6658e9bc4ddedc0e6a3339d8811f39a88335133e55a0f3c4ce45f33ec52b006d", func := "loop.example/g00710/laws.FnExactPlanOk", spec := "fnExactPlanOk", apart := false }
def FnExactPlanOkSaid : Prop := fnExactPlanOkRow.holds Try.pinned (OpenSpec.ofChange fnExactPlanOkSpec)

/-- ITS FALSE NEIGHBOUR: 'it returns false'. Refute it at one input. -/
def fnExactPlanOkWrong : ChangeSpec := { name := "fnExactPlanOk", fn := fun _ => fun
  | [d] => { results := [.lit (.bool false)], args := [d] }
  | _ => none }
def FnExactPlanOkWrongFalsely : Prop := fnExactPlanOkRow.holds Try.pinned (OpenSpec.ofChange fnExactPlanOkWrong)

/-- 'laws.FnExactPlayBucket': WHATEVER THE INPUT: true; the input reads as it did. -/
def fnExactPlayBucketSpec : ChangeSpec := { name := "fnExactPlayBucket", fn := fun _ => fun
  | [d1, d2] => { results := [.lit (.bool true)], args := [d1, d2] }
  | _ => none }
def fnExactPlayBucketRow : OpenClaim := { program := "ytjgggiophbnghac", sum := "6658e9bc4ddedc0e6a3339d8811f39a88335133e55a0f3c4ce45f33ec52b006d", func := "loop.example/g00710/laws.FnExactPlayBucket", spec := "fnExactPlayBucket", apart := false }
def FnExactPlayBucketSaid : Prop := fnExactPlayBucketRow.holds Try.pinned (OpenSpec.ofChange fnExactPlayBucketSpec)

/-- ITS FALSE NEIGHBOUR: 'it returns false'. Refute it at one input. -/
def fnExactPlayBucketWrong : ChangeSpec := { name := "fnExactPlayBucket", fn := fun _ => fun
  | [d1, d2] => { results := [.lit (.bool false)], args := [d1, d2] }
  | _ => none }
def FnExactPlayBucketWrongFalsely : Prop := fnExactPlayBucketRow.holds Try.pinned (OpenSpec.ofChange fnExactPlayBucketWrong)

/- THE SECOND FORM. 'bulk': how many values and letters a reading holds, each counted each time it is reached (what is shared counts as often as it is met; a slice's spare places count too). A statement '..UptoSaid' is the law's where the arguments, and the package variables that the reading takes, are together of bulk at most 1048576: NARROWER than '..Said'. Prove '..Said' where nothing that the law and all that it calls make is longer than what came in: it says more and counts as full. Else prove '..UptoSaid'. A law counts once. -/
mutual
def uptoBulk {H : Type} : DataW H → Nat
  | .lit (.string bytes) => bytes.length + 1
  | .lit _ => 1
  | .nil => 1
  | .ptr d => uptoBulk d + 1
  | .slice elems spare => uptoBulkAll elems + uptoBulkAll spare + 1
  | .agg parts => uptoBulkAll parts + 1
  | .iface _ d => uptoBulk d + 1
  | .map entries => uptoBulkEntries entries + 1
  | .held _ => 1
def uptoBulkAll {H : Type} : List (DataW H) → Nat
  | [] => 0
  | d :: r => uptoBulk d + uptoBulkAll r
def uptoBulkEntries {H : Type} : List (Lit × DataW H) → Nat
  | [] => 0
  | x :: r => uptoBulkEntry x + uptoBulkEntries r
def uptoBulkEntry {H : Type} : Lit × DataW H → Nat
  | (.string bytes, d) => bytes.length + uptoBulk d + 1
  | (_, d) => uptoBulk d + 1
 end
def uptoSmall : (H : Type) → List (DataW H) → Bool := fun _ ds => decide (uptoBulkAll ds ≤ 1048576)
def OpenSpec.upto (s : _root_.Go.ChangeSpec) : _root_.Go.OpenSpec := { _root_.Go.OpenSpec.ofChange s with cond := some uptoSmall }

/-- 'laws.FnHash', WHERE WHAT IT READS IS OF BULK AT MOST 1048576: true; the input reads as it did. -/
def fnHashUptoRow : OpenClaim := { program := "ytjgggiophbnghac", sum := "6658e9bc4ddedc0e6a3339d8811f39a88335133e55a0f3c4ce45f33ec52b006d", func := "loop.example/g00710/laws.FnHash", spec := "fnHash", apart := false, narrowed := true }
def FnHashUptoSaid : Prop := fnHashUptoRow.holds Try.pinned (OpenSpec.upto fnHashSpec)

/-- 'laws.FnFillTwice', WHERE WHAT IT READS IS OF BULK AT MOST 1048576: true; the input reads as it did. -/
def fnFillTwiceUptoRow : OpenClaim := { program := "ytjgggiophbnghac", sum := "6658e9bc4ddedc0e6a3339d8811f39a88335133e55a0f3c4ce45f33ec52b006d", func := "loop.example/g00710/laws.FnFillTwice", spec := "fnFillTwice", apart := false, narrowed := true }
def FnFillTwiceUptoSaid : Prop := fnFillTwiceUptoRow.holds Try.pinned (OpenSpec.upto fnFillTwiceSpec)

/-- 'laws.FnExactHashBytes', WHERE WHAT IT READS IS OF BULK AT MOST 1048576: true; the input reads as it did. -/
def fnExactHashBytesUptoRow : OpenClaim := { program := "ytjgggiophbnghac", sum := "6658e9bc4ddedc0e6a3339d8811f39a88335133e55a0f3c4ce45f33ec52b006d", func := "loop.example/g00710/laws.FnExactHashBytes", spec := "fnExactHashBytes", apart := false, narrowed := true }
def FnExactHashBytesUptoSaid : Prop := fnExactHashBytesUptoRow.holds Try.pinned (OpenSpec.upto fnExactHashBytesSpec)

/-- 'laws.FnExactMakePlan', WHERE WHAT IT READS IS OF BULK AT MOST 1048576: true; the input reads as it did. -/
def fnExactMakePlanUptoRow : OpenClaim := { program := "ytjgggiophbnghac", sum := "6658e9bc4ddedc0e6a3339d8811f39a88335133e55a0f3c4ce45f33ec52b006d", func := "loop.example/g00710/laws.FnExactMakePlan", spec := "fnExactMakePlan", apart := false, narrowed := true }
def FnExactMakePlanUptoSaid : Prop := fnExactMakePlanUptoRow.holds Try.pinned (OpenSpec.upto fnExactMakePlanSpec)

/-- 'laws.FnExactPlanOk', WHERE WHAT IT READS IS OF BULK AT MOST 1048576: true; the input reads as it did. -/
def fnExactPlanOkUptoRow : OpenClaim := { program := "ytjgggiophbnghac", sum := "6658e9bc4ddedc0e6a3339d8811f39a88335133e55a0f3c4ce45f33ec52b006d", func := "loop.example/g00710/laws.FnExactPlanOk", spec := "fnExactPlanOk", apart := false, narrowed := true }
def FnExactPlanOkUptoSaid : Prop := fnExactPlanOkUptoRow.holds Try.pinned (OpenSpec.upto fnExactPlanOkSpec)

/-- 'laws.FnExactPlayBucket', WHERE WHAT IT READS IS OF BULK AT MOST 1048576: true; the input reads as it did. -/
def fnExactPlayBucketUptoRow : OpenClaim := { program := "ytjgggiophbnghac", sum := "6658e9bc4ddedc0e6a3339d8811f39a88335133e55a0f3c4ce45f33ec52b006d", func := "loop.example/g00710/laws.FnExactPlayBucket", spec := "fnExactPlayBucket", apart := false, narrowed := true }
def FnExactPlayBucketUptoSaid : Prop := fnExactPlayBucketUptoRow.holds Try.pinned (OpenSpec.upto fnExactPlayBucketSpec)

end Rows
end Go.Proofs.Ytjgggiophbnghac

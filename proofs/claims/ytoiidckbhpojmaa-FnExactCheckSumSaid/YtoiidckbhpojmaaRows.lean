/-
  No cell of these rows narrows 'for every input' (looked for: loops, veiled, ifaces, maps, wideKeys, modest, calm, conditions, laid).
  DERIVED. THE GIVEN ROWS OF THIS SEAT. 6 by the template 'for every input the law returns true; each argument reads behind the call as it read before'; 0 by the template 'total and deterministic' (their statements: YtoiidckbhpojmaaTotals.lean).
  GIVEN WITH THE SEED: the statements are not yours to turn. If you find one false, say at which input.
  Laid BY PROGRAM, IN A SANDBOX (cutbox-rows.mjs): the forced cells as the released guide's own fill.sh prints them over the translation 7e4227391ba30915… (all of the seat's roots in one cut). By AI agents, Wed Nov 11 2026. No macro, syntax, notation, axiom, sorry.
-/
import Derived.Test.YtoiidckbhpojmaaChecked
import GoSem.Claim
import GoSem.ClaimJoined
import GoSem.ClaimMapViews
import Derived.JoinedTies
import Derived.KernelRfl
namespace Go.Proofs.Ytoiidckbhpojmaa
/- THE CELL 'sum', in the pinned program and in every row, IS THE sha256 OF THE DUMP (.gsa) THAT YtoiidckbhpojmaaProg.lean LOADS. Nothing in Lean hashes anything: it is a label: what it is worth is what the hold of that sum in a sandbox is worth. -/
noncomputable def Try.pinned : Pinned := { name := "ytoiidckbhpojmaa", sum := "7e4227391ba3091528822c71ae29d2666a763d45b682a20333ce37b37f99aec3", checked := Try.checked }
namespace Rows
def none {H : Type} : Left H := { results := [], args := [] }

/-- 'laws.FnExactBucketOk': WHATEVER THE INPUT: true; the input reads as it did. -/
def fnExactBucketOkSpec : ChangeSpec := { name := "fnExactBucketOk", fn := fun _ => fun
  | [d] => { results := [.lit (.bool true)], args := [d] }
  | _ => none }
def fnExactBucketOkRow : OpenClaim := { program := "ytoiidckbhpojmaa", sum := "7e4227391ba3091528822c71ae29d2666a763d45b682a20333ce37b37f99aec3", func := "loop.example/g00710/laws.FnExactBucketOk", spec := "fnExactBucketOk", apart := false }
def FnExactBucketOkSaid : Prop := fnExactBucketOkRow.holds Try.pinned (OpenSpec.ofChange fnExactBucketOkSpec)

/-- ITS FALSE NEIGHBOUR: 'it returns false'. Refute it at one input. -/
def fnExactBucketOkWrong : ChangeSpec := { name := "fnExactBucketOk", fn := fun _ => fun
  | [d] => { results := [.lit (.bool false)], args := [d] }
  | _ => none }
def FnExactBucketOkWrongFalsely : Prop := fnExactBucketOkRow.holds Try.pinned (OpenSpec.ofChange fnExactBucketOkWrong)

/-- 'laws.FnExactStepCost': WHATEVER THE INPUT: true; the input reads as it did. -/
def fnExactStepCostSpec : ChangeSpec := { name := "fnExactStepCost", fn := fun _ => fun
  | [d] => { results := [.lit (.bool true)], args := [d] }
  | _ => none }
def fnExactStepCostRow : OpenClaim := { program := "ytoiidckbhpojmaa", sum := "7e4227391ba3091528822c71ae29d2666a763d45b682a20333ce37b37f99aec3", func := "loop.example/g00710/laws.FnExactStepCost", spec := "fnExactStepCost", apart := false }
def FnExactStepCostSaid : Prop := fnExactStepCostRow.holds Try.pinned (OpenSpec.ofChange fnExactStepCostSpec)

/-- ITS FALSE NEIGHBOUR: 'it returns false'. Refute it at one input. -/
def fnExactStepCostWrong : ChangeSpec := { name := "fnExactStepCost", fn := fun _ => fun
  | [d] => { results := [.lit (.bool false)], args := [d] }
  | _ => none }
def FnExactStepCostWrongFalsely : Prop := fnExactStepCostRow.holds Try.pinned (OpenSpec.ofChange fnExactStepCostWrong)

/-- 'laws.FnExactCeiling': WHATEVER THE INPUT: true; the input reads as it did. -/
def fnExactCeilingSpec : ChangeSpec := { name := "fnExactCeiling", fn := fun _ => fun
  | [d1, d2] => { results := [.lit (.bool true)], args := [d1, d2] }
  | _ => none }
def fnExactCeilingRow : OpenClaim := { program := "ytoiidckbhpojmaa", sum := "7e4227391ba3091528822c71ae29d2666a763d45b682a20333ce37b37f99aec3", func := "loop.example/g00710/laws.FnExactCeiling", spec := "fnExactCeiling", apart := false }
def FnExactCeilingSaid : Prop := fnExactCeilingRow.holds Try.pinned (OpenSpec.ofChange fnExactCeilingSpec)

/-- ITS FALSE NEIGHBOUR: 'it returns false'. Refute it at one input. -/
def fnExactCeilingWrong : ChangeSpec := { name := "fnExactCeiling", fn := fun _ => fun
  | [d1, d2] => { results := [.lit (.bool false)], args := [d1, d2] }
  | _ => none }
def FnExactCeilingWrongFalsely : Prop := fnExactCeilingRow.holds Try.pinned (OpenSpec.ofChange fnExactCeilingWrong)

/-- 'laws.FnExactCheckSum': WHATEVER THE INPUT: true; the input reads as it did. -/
def fnExactCheckSumSpec : ChangeSpec := { name := "fnExactCheckSum", fn := fun _ => fun
  | [d] => { results := [.lit (.bool true)], args := [d] }
  | _ => none }
def fnExactCheckSumRow : OpenClaim := { program := "ytoiidckbhpojmaa", sum := "7e4227391ba3091528822c71ae29d2666a763d45b682a20333ce37b37f99aec3", func := "loop.example/g00710/laws.FnExactCheckSum", spec := "fnExactCheckSum", apart := false }
def FnExactCheckSumSaid : Prop := fnExactCheckSumRow.holds Try.pinned (OpenSpec.ofChange fnExactCheckSumSpec)

/-- ITS FALSE NEIGHBOUR: 'it returns false'. Refute it at one input. -/
def fnExactCheckSumWrong : ChangeSpec := { name := "fnExactCheckSum", fn := fun _ => fun
  | [d] => { results := [.lit (.bool false)], args := [d] }
  | _ => none }
def FnExactCheckSumWrongFalsely : Prop := fnExactCheckSumRow.holds Try.pinned (OpenSpec.ofChange fnExactCheckSumWrong)

/-- 'laws.FnExactFillBucket': WHATEVER THE INPUT: true; the input reads as it did. -/
def fnExactFillBucketSpec : ChangeSpec := { name := "fnExactFillBucket", fn := fun _ => fun
  | [d1, d2] => { results := [.lit (.bool true)], args := [d1, d2] }
  | _ => none }
def fnExactFillBucketRow : OpenClaim := { program := "ytoiidckbhpojmaa", sum := "7e4227391ba3091528822c71ae29d2666a763d45b682a20333ce37b37f99aec3", func := "loop.example/g00710/laws.FnExactFillBucket", spec := "fnExactFillBucket", apart := false }
def FnExactFillBucketSaid : Prop := fnExactFillBucketRow.holds Try.pinned (OpenSpec.ofChange fnExactFillBucketSpec)

/-- ITS FALSE NEIGHBOUR: 'it returns false'. Refute it at one input. -/
def fnExactFillBucketWrong : ChangeSpec := { name := "fnExactFillBucket", fn := fun _ => fun
  | [d1, d2] => { results := [.lit (.bool false)], args := [d1, d2] }
  | _ => none }
def FnExactFillBucketWrongFalsely : Prop := fnExactFillBucketRow.holds Try.pinned (OpenSpec.ofChange fnExactFillBucketWrong)

/-- 'laws.FnExactPutNumber': WHATEVER THE INPUT: true; the input reads as it did. -/
def fnExactPutNumberSpec : ChangeSpec := { name := "fnExactPutNumber", fn := fun _ => fun
  | [d] => { results := [.lit (.bool true)], args := [d] }
  | _ => none }
def fnExactPutNumberRow : OpenClaim := { program := "ytoiidckbhpojmaa", sum := "7e4227391ba3091528822c71ae29d2666a763d45b682a20333ce37b37f99aec3", func := "loop.example/g00710/laws.FnExactPutNumber", spec := "fnExactPutNumber", apart := false }
def FnExactPutNumberSaid : Prop := fnExactPutNumberRow.holds Try.pinned (OpenSpec.ofChange fnExactPutNumberSpec)

/-- ITS FALSE NEIGHBOUR: 'it returns false'. Refute it at one input. -/
def fnExactPutNumberWrong : ChangeSpec := { name := "fnExactPutNumber", fn := fun _ => fun
  | [d] => { results := [.lit (.bool false)], args := [d] }
  | _ => none }
def FnExactPutNumberWrongFalsely : Prop := fnExactPutNumberRow.holds Try.pinned (OpenSpec.ofChange fnExactPutNumberWrong)

/- THE SECOND FORM. 'bulk': how many values and letters a reading holds, each counted each time it is reached (what is shared counts as often as it is met; a slice's spare places count too). A statement '..UptoSaid' is the law's where the arguments, and the package variables that the reading takes, are together of bulk at most 1048576: NARROWER than '..Said'. Prove '..Said' where nothing that the law and all that it calls make is longer than what came in: it says more and counts as full. Else prove '..UptoSaid'. A law counts once. -/
mutual
def uptoBulk {H : Type} : DataW H → Nat
  | .lit (.string bytes) => bytes.length + 1
  | .lit _ => 1
  | .nil => 1
  | .ptr d => uptoBulk d + 1
  | .slice elems spare => uptoBulkAll elems + uptoBulkAll spare + 1
  | .agg parts => uptoBulkAll parts + 1
  | .iface _ d => uptoBulk d + 1
  | .map entries => uptoBulkEntries entries + 1
  | .held _ => 1
def uptoBulkAll {H : Type} : List (DataW H) → Nat
  | [] => 0
  | d :: r => uptoBulk d + uptoBulkAll r
def uptoBulkEntries {H : Type} : List (Lit × DataW H) → Nat
  | [] => 0
  | x :: r => uptoBulkEntry x + uptoBulkEntries r
def uptoBulkEntry {H : Type} : Lit × DataW H → Nat
  | (.string bytes, d) => bytes.length + uptoBulk d + 1
  | (_, d) => uptoBulk d + 1
 end
def uptoSmall : (H : Type) → List (DataW H) → Bool := fun _ ds => decide (uptoBulkAll ds ≤ 1048576)
def OpenSpec.upto (s : _root_.Go.ChangeSpec) : _root_.Go.OpenSpec := { _root_.Go.OpenSpec.ofChange s with cond := some uptoSmall }

/-- 'laws.FnExactBucketOk', WHERE WHAT IT READS IS OF BULK AT MOST 1048576: true; the input reads as it did. -/
def fnExactBucketOkUptoRow : OpenClaim := { program := "ytoiidckbhpojmaa", sum := "7e4227391ba3091528822c71ae29d2666a763d45b682a20333ce37b37f99aec3", func := "loop.example/g00710/laws.FnExactBucketOk", spec := "fnExactBucketOk", apart := false, narrowed := true }
def FnExactBucketOkUptoSaid : Prop := fnExactBucketOkUptoRow.holds Try.pinned (OpenSpec.upto fnExactBucketOkSpec)

/-- 'laws.FnExactStepCost', WHERE WHAT IT READS IS OF BULK AT MOST 1048576: true; the input reads as it did. -/
def fnExactStepCostUptoRow : OpenClaim := { program := "ytoiidckbhpojmaa", sum := "7e4227391ba3091528822c71ae29d2666a763d45b682a20333ce37b37f99aec3", func := "loop.example/g00710/laws.FnExactStepCost", spec := "fnExactStepCost", apart := false, narrowed := true }
def FnExactStepCostUptoSaid : Prop := fnExactStepCostUptoRow.holds Try.pinned (OpenSpec.upto fnExactStepCostSpec)

/-- 'laws.FnExactCeiling', WHERE WHAT IT READS IS OF BULK AT MOST 1048576: true; the input reads as it did. -/
def fnExactCeilingUptoRow : OpenClaim := { program := "ytoiidckbhpojmaa", sum := "7e4227391ba3091528822c71ae29d2666a763d45b682a20333ce37b37f99aec3", func := "loop.example/g00710/laws.FnExactCeiling", spec := "fnExactCeiling", apart := false, narrowed := true }
def FnExactCeilingUptoSaid : Prop := fnExactCeilingUptoRow.holds Try.pinned (OpenSpec.upto fnExactCeilingSpec)

/-- 'laws.FnExactCheckSum', WHERE WHAT IT READS IS OF BULK AT MOST 1048576: true; the input reads as it did. -/
def fnExactCheckSumUptoRow : OpenClaim := { program := "ytoiidckbhpojmaa", sum := "7e4227391ba3091528822c71ae29d2666a763d45b682a20333ce37b37f99aec3", func := "loop.example/g00710/laws.FnExactCheckSum", spec := "fnExactCheckSum", apart := false, narrowed := true }
def FnExactCheckSumUptoSaid : Prop := fnExactCheckSumUptoRow.holds Try.pinned (OpenSpec.upto fnExactCheckSumSpec)

/-- 'laws.FnExactFillBucket', WHERE WHAT IT READS IS OF BULK AT MOST 1048576: true; the input reads as it did. -/
def fnExactFillBucketUptoRow : OpenClaim := { program := "ytoiidckbhpojmaa", sum := "7e4227391ba3091528822c71ae29d2666a763d45b682a20333ce37b37f99aec3", func := "loop.example/g00710/laws.FnExactFillBucket", spec := "fnExactFillBucket", apart := false, narrowed := true }
def FnExactFillBucketUptoSaid : Prop := fnExactFillBucketUptoRow.holds Try.pinned (OpenSpec.upto fnExactFillBucketSpec)

/-- 'laws.FnExactPutNumber', WHERE WHAT IT READS IS OF BULK AT MOST 1048576: true; the input reads as it did. -/
def fnExactPutNumberUptoRow : OpenClaim := { program := "ytoiidckbhpojmaa", sum := "7e4227391ba3091528822c71ae29d2666a763d45b682a20333ce37b37f99aec3", func := "loop.example/g00710/laws.FnExactPutNumber", spec := "fnExactPutNumber", apart := false, narrowed := true }
def FnExactPutNumberUptoSaid : Prop := fnExactPutNumberUptoRow.holds Try.pinned (OpenSpec.upto fnExactPutNumberSpec)

end Rows
end Go.Proofs.Ytoiidckbhpojmaa

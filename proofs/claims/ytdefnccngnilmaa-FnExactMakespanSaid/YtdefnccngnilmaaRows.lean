/-
  No cell of these rows narrows 'for every input' (looked for: loops, veiled, ifaces, maps, wideKeys, modest, calm, conditions, laid).
  DERIVED. THE GIVEN ROWS OF THIS SEAT. 6 by the template 'for every input the law returns true; each argument reads behind the call as it read before'; 0 by the template 'total and deterministic' (their statements: YtdefnccngnilmaaTotals.lean).
  GIVEN WITH THE SEED: the statements are not yours to turn. If you find one false, say at which input.
  Laid BY PROGRAM, IN A SANDBOX (cutbox-rows.mjs): the forced cells as the released guide's own fill.sh prints them over the translation 5a69b626a956edbb… (all of the seat's roots in one cut). By AI agents, Wed Nov 11 2026. No macro, syntax, notation, axiom, sorry.
-/
import Derived.Test.YtdefnccngnilmaaChecked
import GoSem.Claim
import GoSem.ClaimJoined
import GoSem.ClaimMapViews
import Derived.JoinedTies
import Derived.KernelRfl
namespace Go.Proofs.Ytdefnccngnilmaa
/- THE CELL 'sum', in the pinned program and in every row, IS THE sha256 OF THE DUMP (.gsa) THAT YtdefnccngnilmaaProg.lean LOADS. Nothing in Lean hashes anything: it is a label: what it is worth is what the hold of that sum in a sandbox is worth. -/
noncomputable def Try.pinned : Pinned := { name := "ytdefnccngnilmaa", sum := "5a69b626a956edbba8f7a3272c49601d691b5d66c6597e5b63fe47e82ddf833a", checked := Try.checked }
namespace Rows
def none {H : Type} : Left H := { results := [], args := [] }

/-- 'laws.FnExactSwapSteps': WHATEVER THE INPUT: true; the input reads as it did. -/
def fnExactSwapStepsSpec : ChangeSpec := { name := "fnExactSwapSteps", fn := fun _ => fun
  | [d1, d2] => { results := [.lit (.bool true)], args := [d1, d2] }
  | _ => none }
def fnExactSwapStepsRow : OpenClaim := { program := "ytdefnccngnilmaa", sum := "5a69b626a956edbba8f7a3272c49601d691b5d66c6597e5b63fe47e82ddf833a", func := "loop.example/g00710/laws.FnExactSwapSteps", spec := "fnExactSwapSteps", plainKeys := false, apart := false }
def FnExactSwapStepsSaid : Prop := fnExactSwapStepsRow.holds Try.pinned (OpenSpec.ofChange fnExactSwapStepsSpec)

/-- ITS FALSE NEIGHBOUR: 'it returns false'. Refute it at one input. -/
def fnExactSwapStepsWrong : ChangeSpec := { name := "fnExactSwapSteps", fn := fun _ => fun
  | [d1, d2] => { results := [.lit (.bool false)], args := [d1, d2] }
  | _ => none }
def FnExactSwapStepsWrongFalsely : Prop := fnExactSwapStepsRow.holds Try.pinned (OpenSpec.ofChange fnExactSwapStepsWrong)

/-- 'laws.FnRingInverse': WHATEVER THE INPUT: true; the input reads as it did. -/
def fnRingInverseSpec : ChangeSpec := { name := "fnRingInverse", fn := fun _ => fun
  | [d] => { results := [.lit (.bool true)], args := [d] }
  | _ => none }
def fnRingInverseRow : OpenClaim := { program := "ytdefnccngnilmaa", sum := "5a69b626a956edbba8f7a3272c49601d691b5d66c6597e5b63fe47e82ddf833a", func := "loop.example/g00710/laws.FnRingInverse", spec := "fnRingInverse", plainKeys := false, apart := false }
def FnRingInverseSaid : Prop := fnRingInverseRow.holds Try.pinned (OpenSpec.ofChange fnRingInverseSpec)

/-- ITS FALSE NEIGHBOUR: 'it returns false'. Refute it at one input. -/
def fnRingInverseWrong : ChangeSpec := { name := "fnRingInverse", fn := fun _ => fun
  | [d] => { results := [.lit (.bool false)], args := [d] }
  | _ => none }
def FnRingInverseWrongFalsely : Prop := fnRingInverseRow.holds Try.pinned (OpenSpec.ofChange fnRingInverseWrong)

/-- 'laws.FnExactDecodeJob': WHATEVER THE INPUT: true; the input reads as it did. -/
def fnExactDecodeJobSpec : ChangeSpec := { name := "fnExactDecodeJob", fn := fun _ => fun
  | [d] => { results := [.lit (.bool true)], args := [d] }
  | _ => none }
def fnExactDecodeJobRow : OpenClaim := { program := "ytdefnccngnilmaa", sum := "5a69b626a956edbba8f7a3272c49601d691b5d66c6597e5b63fe47e82ddf833a", func := "loop.example/g00710/laws.FnExactDecodeJob", spec := "fnExactDecodeJob", plainKeys := false, apart := false }
def FnExactDecodeJobSaid : Prop := fnExactDecodeJobRow.holds Try.pinned (OpenSpec.ofChange fnExactDecodeJobSpec)

/-- ITS FALSE NEIGHBOUR: 'it returns false'. Refute it at one input. -/
def fnExactDecodeJobWrong : ChangeSpec := { name := "fnExactDecodeJob", fn := fun _ => fun
  | [d] => { results := [.lit (.bool false)], args := [d] }
  | _ => none }
def FnExactDecodeJobWrongFalsely : Prop := fnExactDecodeJobRow.holds Try.pinned (OpenSpec.ofChange fnExactDecodeJobWrong)

/-- 'laws.FnResync': WHATEVER THE INPUT: true; the input reads as it did. -/
def fnResyncSpec : ChangeSpec := { name := "fnResync", fn := fun _ => fun
  | [d] => { results := [.lit (.bool true)], args := [d] }
  | _ => none }
def fnResyncRow : OpenClaim := { program := "ytdefnccngnilmaa", sum := "5a69b626a956edbba8f7a3272c49601d691b5d66c6597e5b63fe47e82ddf833a", func := "loop.example/g00710/laws.FnResync", spec := "fnResync", plainKeys := false, apart := false }
def FnResyncSaid : Prop := fnResyncRow.holds Try.pinned (OpenSpec.ofChange fnResyncSpec)

/-- ITS FALSE NEIGHBOUR: 'it returns false'. Refute it at one input. -/
def fnResyncWrong : ChangeSpec := { name := "fnResync", fn := fun _ => fun
  | [d] => { results := [.lit (.bool false)], args := [d] }
  | _ => none }
def FnResyncWrongFalsely : Prop := fnResyncRow.holds Try.pinned (OpenSpec.ofChange fnResyncWrong)

/-- 'laws.FnConvolution': WHATEVER THE INPUT: true; the input reads as it did. -/
def fnConvolutionSpec : ChangeSpec := { name := "fnConvolution", fn := fun _ => fun
  | [d] => { results := [.lit (.bool true)], args := [d] }
  | _ => none }
def fnConvolutionRow : OpenClaim := { program := "ytdefnccngnilmaa", sum := "5a69b626a956edbba8f7a3272c49601d691b5d66c6597e5b63fe47e82ddf833a", func := "loop.example/g00710/laws.FnConvolution", spec := "fnConvolution", plainKeys := false, apart := false }
def FnConvolutionSaid : Prop := fnConvolutionRow.holds Try.pinned (OpenSpec.ofChange fnConvolutionSpec)

/-- ITS FALSE NEIGHBOUR: 'it returns false'. Refute it at one input. -/
def fnConvolutionWrong : ChangeSpec := { name := "fnConvolution", fn := fun _ => fun
  | [d] => { results := [.lit (.bool false)], args := [d] }
  | _ => none }
def FnConvolutionWrongFalsely : Prop := fnConvolutionRow.holds Try.pinned (OpenSpec.ofChange fnConvolutionWrong)

/-- 'laws.FnExactMakespan': WHATEVER THE INPUT: true; the input reads as it did. -/
def fnExactMakespanSpec : ChangeSpec := { name := "fnExactMakespan", fn := fun _ => fun
  | [d1, d2] => { results := [.lit (.bool true)], args := [d1, d2] }
  | _ => none }
def fnExactMakespanRow : OpenClaim := { program := "ytdefnccngnilmaa", sum := "5a69b626a956edbba8f7a3272c49601d691b5d66c6597e5b63fe47e82ddf833a", func := "loop.example/g00710/laws.FnExactMakespan", spec := "fnExactMakespan", plainKeys := false, apart := false }
def FnExactMakespanSaid : Prop := fnExactMakespanRow.holds Try.pinned (OpenSpec.ofChange fnExactMakespanSpec)

/-- ITS FALSE NEIGHBOUR: 'it returns false'. Refute it at one input. -/
def fnExactMakespanWrong : ChangeSpec := { name := "fnExactMakespan", fn := fun _ => fun
  | [d1, d2] => { results := [.lit (.bool false)], args := [d1, d2] }
  | _ => none }
def FnExactMakespanWrongFalsely : Prop := fnExactMakespanRow.holds Try.pinned (OpenSpec.ofChange fnExactMakespanWrong)

/- THE SECOND FORM. 'bulk': how many values and letters a reading holds, each counted each time it is reached (what is shared counts as often as it is met; a slice's spare places count too). A statement '..UptoSaid' is the law's where the arguments, and the package variables that the reading takes, are together of bulk at most 1048576: NARROWER than '..Said'. Prove '..Said' where nothing that the law and all that it calls make is longer than what came in: it says more and counts as full. Else prove '..UptoSaid'. A law counts once. -/
mutual
def uptoBulk {H : Type} : DataW H → Nat
  | .lit (.string bytes) => bytes.length + 1
  | .lit _ => 1
  | .nil => 1
  | .ptr d => uptoBulk d + 1
  | .slice elems spare => uptoBulkAll elems + uptoBulkAll spare + 1
  | .agg parts => uptoBulkAll parts + 1
  | .iface _ d => uptoBulk d + 1
  | .map entries => uptoBulkEntries entries + 1
  | .held _ => 1
def uptoBulkAll {H : Type} : List (DataW H) → Nat
  | [] => 0
  | d :: r => uptoBulk d + uptoBulkAll r
def uptoBulkEntries {H : Type} : List (Lit × DataW H) → Nat
  | [] => 0
  | x :: r => uptoBulkEntry x + uptoBulkEntries r
def uptoBulkEntry {H : Type} : Lit × DataW H → Nat
  | (.string bytes, d) => bytes.length + uptoBulk d + 1
  | (_, d) => uptoBulk d + 1
 end
def uptoSmall : (H : Type) → List (DataW H) → Bool := fun _ ds => decide (uptoBulkAll ds ≤ 1048576)
def OpenSpec.upto (s : _root_.Go.ChangeSpec) : _root_.Go.OpenSpec := { _root_.Go.OpenSpec.ofChange s with cond := some uptoSmall }

/-- 'laws.FnExactSwapSteps', WHERE WHAT IT READS IS OF BULK AT MOST 1048576: true; the input reads as it did. -/
def fnExactSwapStepsUptoRow : OpenClaim := { program := "ytdefnccngnilmaa", sum := "5a69b626a956edbba8f7a3272c49601d691b5d66c6597e5b63fe47e82ddf833a", func := "loop.example/g00710/laws.FnExactSwapSteps", spec := "fnExactSwapSteps", plainKeys := false, apart := false, narrowed := true }
def FnExactSwapStepsUptoSaid : Prop := fnExactSwapStepsUptoRow.holds Try.pinned (OpenSpec.upto fnExactSwapStepsSpec)

/-- 'laws.FnRingInverse', WHERE WHAT IT READS IS OF BULK AT MOST 1048576: true; the input reads as it did. -/
def fnRingInverseUptoRow : OpenClaim := { program := "ytdefnccngnilmaa", sum := "5a69b626a956edbba8f7a3272c49601d691b5d66c6597e5b63fe47e82ddf833a", func := "loop.example/g00710/laws.FnRingInverse", spec := "fnRingInverse", plainKeys := false, apart := false, narrowed := true }
def FnRingInverseUptoSaid : Prop := fnRingInverseUptoRow.holds Try.pinned (OpenSpec.upto fnRingInverseSpec)

/-- 'laws.FnExactDecodeJob', WHERE WHAT IT READS IS OF BULK AT MOST 1048576: true; the input reads as it did. -/
def fnExactDecodeJobUptoRow : OpenClaim := { program := "ytdefnccngnilmaa", sum := "5a69b626a956edbba8f7a3272c49601d691b5d66c6597e5b63fe47e82ddf833a", func := "loop.example/g00710/laws.FnExactDecodeJob", spec := "fnExactDecodeJob", plainKeys := false, apart := false, narrowed := true }
def FnExactDecodeJobUptoSaid : Prop := fnExactDecodeJobUptoRow.holds Try.pinned (OpenSpec.upto fnExactDecodeJobSpec)

/-- 'laws.FnResync', WHERE WHAT IT READS IS OF BULK AT MOST 1048576: true; the input reads as it did. -/
def fnResyncUptoRow : OpenClaim := { program := "ytdefnccngnilmaa", sum := "5a69b626a956edbba8f7a3272c49601d691b5d66c6597e5b63fe47e82ddf833a", func := "loop.example/g00710/laws.FnResync", spec := "fnResync", plainKeys := false, apart := false, narrowed := true }
def FnResyncUptoSaid : Prop := fnResyncUptoRow.holds Try.pinned (OpenSpec.upto fnResyncSpec)

/-- 'laws.FnConvolution', WHERE WHAT IT READS IS OF BULK AT MOST 1048576: true; the input reads as it did. -/
def fnConvolutionUptoRow : OpenClaim := { program := "ytdefnccngnilmaa", sum := "5a69b626a956edbba8f7a3272c49601d691b5d66c6597e5b63fe47e82ddf833a", func := "loop.example/g00710/laws.FnConvolution", spec := "fnConvolution", plainKeys := false, apart := false, narrowed := true }
def FnConvolutionUptoSaid : Prop := fnConvolutionUptoRow.holds Try.pinned (OpenSpec.upto fnConvolutionSpec)

/-- 'laws.FnExactMakespan', WHERE WHAT IT READS IS OF BULK AT MOST 1048576: true; the input reads as it did. -/
def fnExactMakespanUptoRow : OpenClaim := { program := "ytdefnccngnilmaa", sum := "5a69b626a956edbba8f7a3272c49601d691b5d66c6597e5b63fe47e82ddf833a", func := "loop.example/g00710/laws.FnExactMakespan", spec := "fnExactMakespan", plainKeys := false, apart := false, narrowed := true }
def FnExactMakespanUptoSaid : Prop := fnExactMakespanUptoRow.holds Try.pinned (OpenSpec.upto fnExactMakespanSpec)

end Rows
end Go.Proofs.Ytdefnccngnilmaa

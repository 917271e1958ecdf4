/-
  No cell of these rows narrows 'for every input' (looked for: loops, veiled, ifaces, maps, wideKeys, modest, calm, conditions, laid).
  DERIVED. THE GIVEN ROWS OF THIS SEAT. 6 by the template 'for every input the law returns true; each argument reads behind the call as it read before'; 0 by the template 'total and deterministic' (their statements: YtpomhmcehbefaaaTotals.lean).
  GIVEN WITH THE SEED: the statements are not yours to turn. If you find one false, say at which input.
  Laid BY PROGRAM, IN A SANDBOX (cutbox-rows.mjs): the forced cells as the released guide's own fill.sh prints them over the translation 30258c8c5b4face2… (all of the seat's roots in one cut). By AI agents, Wed Nov 11 2026. No macro, syntax, notation, axiom, sorry.
-/
import Derived.Test.YtpomhmcehbefaaaChecked
import GoSem.Claim
import GoSem.ClaimJoined
import GoSem.ClaimMapViews
import Derived.JoinedTies
import Derived.KernelRfl
namespace Go.Proofs.Ytpomhmcehbefaaa
/- THE CELL 'sum', in the pinned program and in every row, IS THE sha256 OF THE DUMP (.gsa) THAT YtpomhmcehbefaaaProg.lean LOADS. Nothing in Lean hashes anything: it is a label: what it is worth is what the hold of that sum in a sandbox is worth. -/
noncomputable def Try.pinned : Pinned := { name := "ytpomhmcehbefaaa", sum := "30258c8c5b4face2ba34fdf72c6de805576362bdd43cf8d82cf12122ea43f85d", checked := Try.checked }
namespace Rows
def none {H : Type} : Left H := { results := [], args := [] }

/-- 'laws.FnExactRunPlan': WHATEVER THE INPUT: true; the input reads as it did. -/
def fnExactRunPlanSpec : ChangeSpec := { name := "fnExactRunPlan", fn := fun _ => fun
  | [d1, d2] => { results := [.lit (.bool true)], args := [d1, d2] }
  | _ => none }
def fnExactRunPlanRow : OpenClaim := { program := "ytpomhmcehbefaaa", sum := "30258c8c5b4face2ba34fdf72c6de805576362bdd43cf8d82cf12122ea43f85d", func := "loop.example/g00710/laws.FnExactRunPlan", spec := "fnExactRunPlan", apart := false }
def FnExactRunPlanSaid : Prop := fnExactRunPlanRow.holds Try.pinned (OpenSpec.ofChange fnExactRunPlanSpec)

/-- ITS FALSE NEIGHBOUR: 'it returns false'. Refute it at one input. -/
def fnExactRunPlanWrong : ChangeSpec := { name := "fnExactRunPlan", fn := fun _ => fun
  | [d1, d2] => { results := [.lit (.bool false)], args := [d1, d2] }
  | _ => none }
def FnExactRunPlanWrongFalsely : Prop := fnExactRunPlanRow.holds Try.pinned (OpenSpec.ofChange fnExactRunPlanWrong)

/-- 'laws.FnOddProduct': WHATEVER THE INPUT: true; the input reads as it did. -/
def fnOddProductSpec : ChangeSpec := { name := "fnOddProduct", fn := fun _ => fun
  | [d] => { results := [.lit (.bool true)], args := [d] }
  | _ => none }
def fnOddProductRow : OpenClaim := { program := "ytpomhmcehbefaaa", sum := "30258c8c5b4face2ba34fdf72c6de805576362bdd43cf8d82cf12122ea43f85d", func := "loop.example/g00710/laws.FnOddProduct", spec := "fnOddProduct", apart := false }
def FnOddProductSaid : Prop := fnOddProductRow.holds Try.pinned (OpenSpec.ofChange fnOddProductSpec)

/-- ITS FALSE NEIGHBOUR: 'it returns false'. Refute it at one input. -/
def fnOddProductWrong : ChangeSpec := { name := "fnOddProduct", fn := fun _ => fun
  | [d] => { results := [.lit (.bool false)], args := [d] }
  | _ => none }
def FnOddProductWrongFalsely : Prop := fnOddProductRow.holds Try.pinned (OpenSpec.ofChange fnOddProductWrong)

/-- 'laws.FnConvolution': WHATEVER THE INPUT: true; the input reads as it did. -/
def fnConvolutionSpec : ChangeSpec := { name := "fnConvolution", fn := fun _ => fun
  | [d] => { results := [.lit (.bool true)], args := [d] }
  | _ => none }
def fnConvolutionRow : OpenClaim := { program := "ytpomhmcehbefaaa", sum := "30258c8c5b4face2ba34fdf72c6de805576362bdd43cf8d82cf12122ea43f85d", func := "loop.example/g00710/laws.FnConvolution", spec := "fnConvolution", apart := false }
def FnConvolutionSaid : Prop := fnConvolutionRow.holds Try.pinned (OpenSpec.ofChange fnConvolutionSpec)

/-- ITS FALSE NEIGHBOUR: 'it returns false'. Refute it at one input. -/
def fnConvolutionWrong : ChangeSpec := { name := "fnConvolution", fn := fun _ => fun
  | [d] => { results := [.lit (.bool false)], args := [d] }
  | _ => none }
def FnConvolutionWrongFalsely : Prop := fnConvolutionRow.holds Try.pinned (OpenSpec.ofChange fnConvolutionWrong)

/-- 'laws.FnFillTwice': WHATEVER THE INPUT: true; the input reads as it did. -/
def fnFillTwiceSpec : ChangeSpec := { name := "fnFillTwice", fn := fun _ => fun
  | [d] => { results := [.lit (.bool true)], args := [d] }
  | _ => none }
def fnFillTwiceRow : OpenClaim := { program := "ytpomhmcehbefaaa", sum := "30258c8c5b4face2ba34fdf72c6de805576362bdd43cf8d82cf12122ea43f85d", func := "loop.example/g00710/laws.FnFillTwice", spec := "fnFillTwice", apart := false }
def FnFillTwiceSaid : Prop := fnFillTwiceRow.holds Try.pinned (OpenSpec.ofChange fnFillTwiceSpec)

/-- ITS FALSE NEIGHBOUR: 'it returns false'. Refute it at one input. -/
def fnFillTwiceWrong : ChangeSpec := { name := "fnFillTwice", fn := fun _ => fun
  | [d] => { results := [.lit (.bool false)], args := [d] }
  | _ => none }
def FnFillTwiceWrongFalsely : Prop := fnFillTwiceRow.holds Try.pinned (OpenSpec.ofChange fnFillTwiceWrong)

/-- 'laws.FnCeiling': WHATEVER THE INPUT: true; the input reads as it did. -/
def fnCeilingSpec : ChangeSpec := { name := "fnCeiling", fn := fun _ => fun
  | [d] => { results := [.lit (.bool true)], args := [d] }
  | _ => none }
def fnCeilingRow : OpenClaim := { program := "ytpomhmcehbefaaa", sum := "30258c8c5b4face2ba34fdf72c6de805576362bdd43cf8d82cf12122ea43f85d", func := "loop.example/g00710/laws.FnCeiling", spec := "fnCeiling", apart := false }
def FnCeilingSaid : Prop := fnCeilingRow.holds Try.pinned (OpenSpec.ofChange fnCeilingSpec)

/-- ITS FALSE NEIGHBOUR: 'it returns false'. Refute it at one input. -/
def fnCeilingWrong : ChangeSpec := { name := "fnCeiling", fn := fun _ => fun
  | [d] => { results := [.lit (.bool false)], args := [d] }
  | _ => none }
def FnCeilingWrongFalsely : Prop := fnCeilingRow.holds Try.pinned (OpenSpec.ofChange fnCeilingWrong)

/-- 'laws.FnExactMerge': WHATEVER THE INPUT: true; the input reads as it did. -/
def fnExactMergeSpec : ChangeSpec := { name := "fnExactMerge", fn := fun _ => fun
  | [d1, d2] => { results := [.lit (.bool true)], args := [d1, d2] }
  | _ => none }
def fnExactMergeRow : OpenClaim := { program := "ytpomhmcehbefaaa", sum := "30258c8c5b4face2ba34fdf72c6de805576362bdd43cf8d82cf12122ea43f85d", func := "loop.example/g00710/laws.FnExactMerge", spec := "fnExactMerge", apart := false }
def FnExactMergeSaid : Prop := fnExactMergeRow.holds Try.pinned (OpenSpec.ofChange fnExactMergeSpec)

/-- ITS FALSE NEIGHBOUR: 'it returns false'. Refute it at one input. -/
def fnExactMergeWrong : ChangeSpec := { name := "fnExactMerge", fn := fun _ => fun
  | [d1, d2] => { results := [.lit (.bool false)], args := [d1, d2] }
  | _ => none }
def FnExactMergeWrongFalsely : Prop := fnExactMergeRow.holds Try.pinned (OpenSpec.ofChange fnExactMergeWrong)

/- THE SECOND FORM. 'bulk': how many values and letters a reading holds, each counted each time it is reached (what is shared counts as often as it is met; a slice's spare places count too). A statement '..UptoSaid' is the law's where the arguments, and the package variables that the reading takes, are together of bulk at most 1048576: NARROWER than '..Said'. Prove '..Said' where nothing that the law and all that it calls make is longer than what came in: it says more and counts as full. Else prove '..UptoSaid'. A law counts once. -/
mutual
def uptoBulk {H : Type} : DataW H → Nat
  | .lit (.string bytes) => bytes.length + 1
  | .lit _ => 1
  | .nil => 1
  | .ptr d => uptoBulk d + 1
  | .slice elems spare => uptoBulkAll elems + uptoBulkAll spare + 1
  | .agg parts => uptoBulkAll parts + 1
  | .iface _ d => uptoBulk d + 1
  | .map entries => uptoBulkEntries entries + 1
  | .held _ => 1
def uptoBulkAll {H : Type} : List (DataW H) → Nat
  | [] => 0
  | d :: r => uptoBulk d + uptoBulkAll r
def uptoBulkEntries {H : Type} : List (Lit × DataW H) → Nat
  | [] => 0
  | x :: r => uptoBulkEntry x + uptoBulkEntries r
def uptoBulkEntry {H : Type} : Lit × DataW H → Nat
  | (.string bytes, d) => bytes.length + uptoBulk d + 1
  | (_, d) => uptoBulk d + 1
 end
def uptoSmall : (H : Type) → List (DataW H) → Bool := fun _ ds => decide (uptoBulkAll ds ≤ 1048576)
def OpenSpec.upto (s : _root_.Go.ChangeSpec) : _root_.Go.OpenSpec := { _root_.Go.OpenSpec.ofChange s with cond := some uptoSmall }

/-- 'laws.FnExactRunPlan', WHERE WHAT IT READS IS OF BULK AT MOST 1048576: true; the input reads as it did. -/
def fnExactRunPlanUptoRow : OpenClaim := { program := "ytpomhmcehbefaaa", sum := "30258c8c5b4face2ba34fdf72c6de805576362bdd43cf8d82cf12122ea43f85d", func := "loop.example/g00710/laws.FnExactRunPlan", spec := "fnExactRunPlan", apart := false, narrowed := true }
def FnExactRunPlanUptoSaid : Prop := fnExactRunPlanUptoRow.holds Try.pinned (OpenSpec.upto fnExactRunPlanSpec)

/-- 'laws.FnOddProduct', WHERE WHAT IT READS IS OF BULK AT MOST 1048576: true; the input reads as it did. -/
def fnOddProductUptoRow : OpenClaim := { program := "ytpomhmcehbefaaa", sum := "30258c8c5b4face2ba34fdf72c6de805576362bdd43cf8d82cf12122ea43f85d", func := "loop.example/g00710/laws.FnOddProduct", spec := "fnOddProduct", apart := false, narrowed := true }
def FnOddProductUptoSaid : Prop := fnOddProductUptoRow.holds Try.pinned (OpenSpec.upto fnOddProductSpec)

/-- 'laws.FnConvolution', WHERE WHAT IT READS IS OF BULK AT MOST 1048576: true; the input reads as it did. -/
def fnConvolutionUptoRow : OpenClaim := { program := "ytpomhmcehbefaaa", sum := "30258c8c5b4face2ba34fdf72c6de805576362bdd43cf8d82cf12122ea43f85d", func := "loop.example/g00710/laws.FnConvolution", spec := "fnConvolution", apart := false, narrowed := true }
def FnConvolutionUptoSaid : Prop := fnConvolutionUptoRow.holds Try.pinned (OpenSpec.upto fnConvolutionSpec)

/-- 'laws.FnFillTwice', WHERE WHAT IT READS IS OF BULK AT MOST 1048576: true; the input reads as it did. -/
def fnFillTwiceUptoRow : OpenClaim := { program := "ytpomhmcehbefaaa", sum := "30258c8c5b4face2ba34fdf72c6de805576362bdd43cf8d82cf12122ea43f85d", func := "loop.example/g00710/laws.FnFillTwice", spec := "fnFillTwice", apart := false, narrowed := true }
def FnFillTwiceUptoSaid : Prop := fnFillTwiceUptoRow.holds Try.pinned (OpenSpec.upto fnFillTwiceSpec)

/-- 'laws.FnCeiling', WHERE WHAT IT READS IS OF BULK AT MOST 1048576: true; the input reads as it did. -/
def fnCeilingUptoRow : OpenClaim := { program := "ytpomhmcehbefaaa", sum := "30258c8c5b4face2ba34fdf72c6de805576362bdd43cf8d82cf12122ea43f85d", func := "loop.example/g00710/laws.FnCeiling", spec := "fnCeiling", apart := false, narrowed := true }
def FnCeilingUptoSaid : Prop := fnCeilingUptoRow.holds Try.pinned (OpenSpec.upto fnCeilingSpec)

/-- 'laws.FnExactMerge', WHERE WHAT IT READS IS OF BULK AT MOST 1048576: true; the input reads as it did. -/
def fnExactMergeUptoRow : OpenClaim := { program := "ytpomhmcehbefaaa", sum := "30258c8c5b4face2ba34fdf72c6de805576362bdd43cf8d82cf12122ea43f85d", func := "loop.example/g00710/laws.FnExactMerge", spec := "fnExactMerge", apart := false, narrowed := true }
def FnExactMergeUptoSaid : Prop := fnExactMergeUptoRow.holds Try.pinned (OpenSpec.upto fnExactMergeSpec)

end Rows
end Go.Proofs.Ytpomhmcehbefaaa

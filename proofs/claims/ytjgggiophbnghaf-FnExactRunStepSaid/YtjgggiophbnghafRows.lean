/-
  No cell of these rows narrows 'for every input' (looked for: loops, veiled, ifaces, maps, wideKeys, modest, calm, conditions, laid).
  DERIVED. THE GIVEN ROWS OF THIS SEAT. 6 by the template 'for every input the law returns true; each argument reads behind the call as it read before'; 0 by the template 'total and deterministic' (their statements: YtjgggiophbnghafTotals.lean).
  GIVEN WITH THE SEED: the statements are not yours to turn. If you find one false, say at which input.
  Laid BY PROGRAM, IN A SANDBOX (cutbox-rows.mjs): the forced cells as the released guide's own fill.sh prints them over the translation 6cfa6dabfd598596… (all of the seat's roots in one cut). By AI agents, Wed Nov 11 2026. No macro, syntax, notation, axiom, sorry.
-/
import Derived.Test.YtjgggiophbnghafChecked
import GoSem.Claim
import GoSem.ClaimJoined
import GoSem.ClaimMapViews
import Derived.JoinedTies
import Derived.KernelRfl
namespace Go.Proofs.Ytjgggiophbnghaf
/- THE CELL 'sum', in the pinned program and in every row, IS THE sha256 OF THE DUMP (.gsa) THAT YtjgggiophbnghafProg.lean LOADS. Nothing in Lean hashes anything: it is a label: what it is worth is what the hold of that sum in a sandbox is worth. -/
noncomputable def Try.pinned : Pinned := { name := "ytjgggiophbnghaf", sum := "6cfa6dabfd5985969b2a6359b27395778158eff3ed74e67bbc9f1cf7344c7dc5", checked := Try.checked }
namespace Rows
def none {H : Type} : Left H := { results := [], args := [] }

/-- 'laws.FnExactRunStep': WHATEVER THE INPUT: true; the input reads as it did. -/
def fnExactRunStepSpec : ChangeSpec := { name := "fnExactRunStep", fn := fun _ => fun
  | [d1, d2, d3] => { results := [.lit (.bool true)], args := [d1, d2, d3] }
  | _ => none }
def fnExactRunStepRow : OpenClaim := { program := "ytjgggiophbnghaf", sum := "6cfa6dabfd5985969b2a6359b27395778158eff3ed74e67bbc9f1cf7344c7dc5", func := "loop.example/g00710/laws.FnExactRunStep", spec := "fnExactRunStep", apart := false }
def FnExactRunStepSaid : Prop := fnExactRunStepRow.holds Try.pinned (OpenSpec.ofChange fnExactRunStepSpec)

/-- ITS FALSE NEIGHBOUR: 'it returns false'. Refute it at one input. -/
def fnExactRunStepWrong : ChangeSpec := { name := "fnExactRunStep", fn := fun _ => fun
  | [d1, d2, d3] => { results := [.lit (.bool false)], args := [d1, d2, d3] }
  | _ => none }
def FnExactRunStepWrongFalsely : Prop := fnExactRunStepRow.holds Try.pinned (OpenSpec.ofChange fnExactRunStepWrong)

/-- 'laws.FnExactDecodeJob': WHATEVER THE INPUT: true; the input reads as it did. -/
def fnExactDecodeJobSpec : ChangeSpec := { name := "fnExactDecodeJob", fn := fun _ => fun
  | [d] => { results := [.lit (.bool true)], args := [d] }
  | _ => none }
def fnExactDecodeJobRow : OpenClaim := { program := "ytjgggiophbnghaf", sum := "6cfa6dabfd5985969b2a6359b27395778158eff3ed74e67bbc9f1cf7344c7dc5", func := "loop.example/g00710/laws.FnExactDecodeJob", spec := "fnExactDecodeJob", apart := false }
def FnExactDecodeJobSaid : Prop := fnExactDecodeJobRow.holds Try.pinned (OpenSpec.ofChange fnExactDecodeJobSpec)

/-- ITS FALSE NEIGHBOUR: 'it returns false'. Refute it at one input. -/
def fnExactDecodeJobWrong : ChangeSpec := { name := "fnExactDecodeJob", fn := fun _ => fun
  | [d] => { results := [.lit (.bool false)], args := [d] }
  | _ => none }
def FnExactDecodeJobWrongFalsely : Prop := fnExactDecodeJobRow.holds Try.pinned (OpenSpec.ofChange fnExactDecodeJobWrong)

/-- 'laws.FnExactOddBack': WHATEVER THE INPUT: true; the input reads as it did. -/
def fnExactOddBackSpec : ChangeSpec := { name := "fnExactOddBack", fn := fun _ => fun
  | [d1, d2] => { results := [.lit (.bool true)], args := [d1, d2] }
  | _ => none }
def fnExactOddBackRow : OpenClaim := { program := "ytjgggiophbnghaf", sum := "6cfa6dabfd5985969b2a6359b27395778158eff3ed74e67bbc9f1cf7344c7dc5", func := "loop.example/g00710/laws.FnExactOddBack", spec := "fnExactOddBack", apart := false }
def FnExactOddBackSaid : Prop := fnExactOddBackRow.holds Try.pinned (OpenSpec.ofChange fnExactOddBackSpec)

/-- ITS FALSE NEIGHBOUR: 'it returns false'. Refute it at one input. -/
def fnExactOddBackWrong : ChangeSpec := { name := "fnExactOddBack", fn := fun _ => fun
  | [d1, d2] => { results := [.lit (.bool false)], args := [d1, d2] }
  | _ => none }
def FnExactOddBackWrongFalsely : Prop := fnExactOddBackRow.holds Try.pinned (OpenSpec.ofChange fnExactOddBackWrong)

/-- 'laws.FnConvolution': WHATEVER THE INPUT: true; the input reads as it did. -/
def fnConvolutionSpec : ChangeSpec := { name := "fnConvolution", fn := fun _ => fun
  | [d] => { results := [.lit (.bool true)], args := [d] }
  | _ => none }
def fnConvolutionRow : OpenClaim := { program := "ytjgggiophbnghaf", sum := "6cfa6dabfd5985969b2a6359b27395778158eff3ed74e67bbc9f1cf7344c7dc5", func := "loop.example/g00710/laws.FnConvolution", spec := "fnConvolution", apart := false }
def FnConvolutionSaid : Prop := fnConvolutionRow.holds Try.pinned (OpenSpec.ofChange fnConvolutionSpec)

/-- ITS FALSE NEIGHBOUR: 'it returns false'. Refute it at one input. -/
def fnConvolutionWrong : ChangeSpec := { name := "fnConvolution", fn := fun _ => fun
  | [d] => { results := [.lit (.bool false)], args := [d] }
  | _ => none }
def FnConvolutionWrongFalsely : Prop := fnConvolutionRow.holds Try.pinned (OpenSpec.ofChange fnConvolutionWrong)

/-- 'laws.FnExactFeed': WHATEVER THE INPUT: true; the input reads as it did. -/
def fnExactFeedSpec : ChangeSpec := { name := "fnExactFeed", fn := fun _ => fun
  | [d1, d2] => { results := [.lit (.bool true)], args := [d1, d2] }
  | _ => none }
def fnExactFeedRow : OpenClaim := { program := "ytjgggiophbnghaf", sum := "6cfa6dabfd5985969b2a6359b27395778158eff3ed74e67bbc9f1cf7344c7dc5", func := "loop.example/g00710/laws.FnExactFeed", spec := "fnExactFeed", apart := false }
def FnExactFeedSaid : Prop := fnExactFeedRow.holds Try.pinned (OpenSpec.ofChange fnExactFeedSpec)

/-- ITS FALSE NEIGHBOUR: 'it returns false'. Refute it at one input. -/
def fnExactFeedWrong : ChangeSpec := { name := "fnExactFeed", fn := fun _ => fun
  | [d1, d2] => { results := [.lit (.bool false)], args := [d1, d2] }
  | _ => none }
def FnExactFeedWrongFalsely : Prop := fnExactFeedRow.holds Try.pinned (OpenSpec.ofChange fnExactFeedWrong)

/-- 'laws.FnExactUnpackJobs': WHATEVER THE INPUT: true; the input reads as it did. -/
def fnExactUnpackJobsSpec : ChangeSpec := { name := "fnExactUnpackJobs", fn := fun _ => fun
  | [d] => { results := [.lit (.bool true)], args := [d] }
  | _ => none }
def fnExactUnpackJobsRow : OpenClaim := { program := "ytjgggiophbnghaf", sum := "6cfa6dabfd5985969b2a6359b27395778158eff3ed74e67bbc9f1cf7344c7dc5", func := "loop.example/g00710/laws.FnExactUnpackJobs", spec := "fnExactUnpackJobs", apart := false }
def FnExactUnpackJobsSaid : Prop := fnExactUnpackJobsRow.holds Try.pinned (OpenSpec.ofChange fnExactUnpackJobsSpec)

/-- ITS FALSE NEIGHBOUR: 'it returns false'. Refute it at one input. -/
def fnExactUnpackJobsWrong : ChangeSpec := { name := "fnExactUnpackJobs", fn := fun _ => fun
  | [d] => { results := [.lit (.bool false)], args := [d] }
  | _ => none }
def FnExactUnpackJobsWrongFalsely : Prop := fnExactUnpackJobsRow.holds Try.pinned (OpenSpec.ofChange fnExactUnpackJobsWrong)

/- THE SECOND FORM. 'bulk': how many values and letters a reading holds, each counted each time it is reached (what is shared counts as often as it is met; a slice's spare places count too). A statement '..UptoSaid' is the law's where the arguments, and the package variables that the reading takes, are together of bulk at most 1048576: NARROWER than '..Said'. Prove '..Said' where nothing that the law and all that it calls make is longer than what came in: it says more and counts as full. Else prove '..UptoSaid'. A law counts once. -/
mutual
def uptoBulk {H : Type} : DataW H → Nat
  | .lit (.string bytes) => bytes.length + 1
  | .lit _ => 1
  | .nil => 1
  | .ptr d => uptoBulk d + 1
  | .slice elems spare => uptoBulkAll elems + uptoBulkAll spare + 1
  | .agg parts => uptoBulkAll parts + 1
  | .iface _ d => uptoBulk d + 1
  | .map entries => uptoBulkEntries entries + 1
  | .held _ => 1
def uptoBulkAll {H : Type} : List (DataW H) → Nat
  | [] => 0
  | d :: r => uptoBulk d + uptoBulkAll r
def uptoBulkEntries {H : Type} : List (Lit × DataW H) → Nat
  | [] => 0
  | x :: r => uptoBulkEntry x + uptoBulkEntries r
def uptoBulkEntry {H : Type} : Lit × DataW H → Nat
  | (.string bytes, d) => bytes.length + uptoBulk d + 1
  | (_, d) => uptoBulk d + 1
 end
def uptoSmall : (H : Type) → List (DataW H) → Bool := fun _ ds => decide (uptoBulkAll ds ≤ 1048576)
def OpenSpec.upto (s : _root_.Go.ChangeSpec) : _root_.Go.OpenSpec := { _root_.Go.OpenSpec.ofChange s with cond := some uptoSmall }

/-- 'laws.FnExactRunStep', WHERE WHAT IT READS IS OF BULK AT MOST 1048576: true; the input reads as it did. -/
def fnExactRunStepUptoRow : OpenClaim := { program := "ytjgggiophbnghaf", sum := "6cfa6dabfd5985969b2a6359b27395778158eff3ed74e67bbc9f1cf7344c7dc5", func := "loop.example/g00710/laws.FnExactRunStep", spec := "fnExactRunStep", apart := false, narrowed := true }
def FnExactRunStepUptoSaid : Prop := fnExactRunStepUptoRow.holds Try.pinned (OpenSpec.upto fnExactRunStepSpec)

/-- 'laws.FnExactDecodeJob', WHERE WHAT IT READS IS OF BULK AT MOST 1048576: true; the input reads as it did. -/
def fnExactDecodeJobUptoRow : OpenClaim := { program := "ytjgggiophbnghaf", sum := "6cfa6dabfd5985969b2a6359b27395778158eff3ed74e67bbc9f1cf7344c7dc5", func := "loop.example/g00710/laws.FnExactDecodeJob", spec := "fnExactDecodeJob", apart := false, narrowed := true }
def FnExactDecodeJobUptoSaid : Prop := fnExactDecodeJobUptoRow.holds Try.pinned (OpenSpec.upto fnExactDecodeJobSpec)

/-- 'laws.FnExactOddBack', WHERE WHAT IT READS IS OF BULK AT MOST 1048576: true; the input reads as it did. -/
def fnExactOddBackUptoRow : OpenClaim := { program := "ytjgggiophbnghaf", sum := "6cfa6dabfd5985969b2a6359b27395778158eff3ed74e67bbc9f1cf7344c7dc5", func := "loop.example/g00710/laws.FnExactOddBack", spec := "fnExactOddBack", apart := false, narrowed := true }
def FnExactOddBackUptoSaid : Prop := fnExactOddBackUptoRow.holds Try.pinned (OpenSpec.upto fnExactOddBackSpec)

/-- 'laws.FnConvolution', WHERE WHAT IT READS IS OF BULK AT MOST 1048576: true; the input reads as it did. -/
def fnConvolutionUptoRow : OpenClaim := { program := "ytjgggiophbnghaf", sum := "6cfa6dabfd5985969b2a6359b27395778158eff3ed74e67bbc9f1cf7344c7dc5", func := "loop.example/g00710/laws.FnConvolution", spec := "fnConvolution", apart := false, narrowed := true }
def FnConvolutionUptoSaid : Prop := fnConvolutionUptoRow.holds Try.pinned (OpenSpec.upto fnConvolutionSpec)

/-- 'laws.FnExactFeed', WHERE WHAT IT READS IS OF BULK AT MOST 1048576: true; the input reads as it did. -/
def fnExactFeedUptoRow : OpenClaim := { program := "ytjgggiophbnghaf", sum := "6cfa6dabfd5985969b2a6359b27395778158eff3ed74e67bbc9f1cf7344c7dc5", func := "loop.example/g00710/laws.FnExactFeed", spec := "fnExactFeed", apart := false, narrowed := true }
def FnExactFeedUptoSaid : Prop := fnExactFeedUptoRow.holds Try.pinned (OpenSpec.upto fnExactFeedSpec)

/-- 'laws.FnExactUnpackJobs', WHERE WHAT IT READS IS OF BULK AT MOST 1048576: true; the input reads as it did. -/
def fnExactUnpackJobsUptoRow : OpenClaim := { program := "ytjgggiophbnghaf", sum := "6cfa6dabfd5985969b2a6359b27395778158eff3ed74e67bbc9f1cf7344c7dc5", func := "loop.example/g00710/laws.FnExactUnpackJobs", spec := "fnExactUnpackJobs", apart := false, narrowed := true }
def FnExactUnpackJobsUptoSaid : Prop := fnExactUnpackJobsUptoRow.holds Try.pinned (OpenSpec.upto fnExactUnpackJobsSpec)

end Rows
end Go.Proofs.Ytjgggiophbnghaf

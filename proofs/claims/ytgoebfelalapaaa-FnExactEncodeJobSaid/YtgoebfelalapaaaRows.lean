/-
  No cell of these rows narrows 'for every input' (looked for: loops, veiled, ifaces, maps, wideKeys, modest, calm, conditions, laid).
  DERIVED. THE GIVEN ROWS OF THIS SEAT. 6 by the template 'for every input the law returns true; each argument reads behind the call as it read before'; 0 by the template 'total and deterministic' (their statements: YtgoebfelalapaaaTotals.lean).
  GIVEN WITH THE SEED: the statements are not yours to turn. If you find one false, say at which input.
  Laid BY PROGRAM, IN A SANDBOX (cutbox-rows.mjs): the forced cells as the released guide's own fill.sh prints them over the translation 62ad9eb6b79c80f4… (all of the seat's roots in one cut). By AI agents, Wed Nov 11 2026. No macro, syntax, notation, axiom, sorry.
-/
import Derived.Test.YtgoebfelalapaaaChecked
import GoSem.Claim
import GoSem.ClaimJoined
import GoSem.ClaimMapViews
import Derived.JoinedTies
import Derived.KernelRfl
namespace Go.Proofs.Ytgoebfelalapaaa
/- THE CELL 'sum', in the pinned program and in every row, IS THE sha256 OF THE DUMP (.gsa) THAT YtgoebfelalapaaaProg.lean LOADS. Nothing in Lean hashes anything: it is a label: what it is worth is what the hold of that sum in a sandbox is worth. -/
noncomputable def Try.pinned : Pinned := { name := "ytgoebfelalapaaa", sum := "62ad9eb6b79c80f411937854a41489a1023b7d48a82b73afa9e797d98d4c4c9c", checked := Try.checked }
namespace Rows
def none {H : Type} : Left H := { results := [], args := [] }

/-- 'laws.FnExactTakeNumber': WHATEVER THE INPUT: true; the input reads as it did. -/
def fnExactTakeNumberSpec : ChangeSpec := { name := "fnExactTakeNumber", fn := fun _ => fun
  | [d1, d2] => { results := [.lit (.bool true)], args := [d1, d2] }
  | _ => none }
def fnExactTakeNumberRow : OpenClaim := { program := "ytgoebfelalapaaa", sum := "62ad9eb6b79c80f411937854a41489a1023b7d48a82b73afa9e797d98d4c4c9c", func := "loop.example/g00710/laws.FnExactTakeNumber", spec := "fnExactTakeNumber", apart := false }
def FnExactTakeNumberSaid : Prop := fnExactTakeNumberRow.holds Try.pinned (OpenSpec.ofChange fnExactTakeNumberSpec)

/-- ITS FALSE NEIGHBOUR: 'it returns false'. Refute it at one input. -/
def fnExactTakeNumberWrong : ChangeSpec := { name := "fnExactTakeNumber", fn := fun _ => fun
  | [d1, d2] => { results := [.lit (.bool false)], args := [d1, d2] }
  | _ => none }
def FnExactTakeNumberWrongFalsely : Prop := fnExactTakeNumberRow.holds Try.pinned (OpenSpec.ofChange fnExactTakeNumberWrong)

/-- 'laws.FnExactEncodeFrame': WHATEVER THE INPUT: true; the input reads as it did. -/
def fnExactEncodeFrameSpec : ChangeSpec := { name := "fnExactEncodeFrame", fn := fun _ => fun
  | [d] => { results := [.lit (.bool true)], args := [d] }
  | _ => none }
def fnExactEncodeFrameRow : OpenClaim := { program := "ytgoebfelalapaaa", sum := "62ad9eb6b79c80f411937854a41489a1023b7d48a82b73afa9e797d98d4c4c9c", func := "loop.example/g00710/laws.FnExactEncodeFrame", spec := "fnExactEncodeFrame", apart := false }
def FnExactEncodeFrameSaid : Prop := fnExactEncodeFrameRow.holds Try.pinned (OpenSpec.ofChange fnExactEncodeFrameSpec)

/-- ITS FALSE NEIGHBOUR: 'it returns false'. Refute it at one input. -/
def fnExactEncodeFrameWrong : ChangeSpec := { name := "fnExactEncodeFrame", fn := fun _ => fun
  | [d] => { results := [.lit (.bool false)], args := [d] }
  | _ => none }
def FnExactEncodeFrameWrongFalsely : Prop := fnExactEncodeFrameRow.holds Try.pinned (OpenSpec.ofChange fnExactEncodeFrameWrong)

/-- 'laws.FnExactPlanOk': WHATEVER THE INPUT: true; the input reads as it did. -/
def fnExactPlanOkSpec : ChangeSpec := { name := "fnExactPlanOk", fn := fun _ => fun
  | [d] => { results := [.lit (.bool true)], args := [d] }
  | _ => none }
def fnExactPlanOkRow : OpenClaim := { program := "ytgoebfelalapaaa", sum := "62ad9eb6b79c80f411937854a41489a1023b7d48a82b73afa9e797d98d4c4c9c", func := "loop.example/g00710/laws.FnExactPlanOk", spec := "fnExactPlanOk", apart := false }
def FnExactPlanOkSaid : Prop := fnExactPlanOkRow.holds Try.pinned (OpenSpec.ofChange fnExactPlanOkSpec)

/-- ITS FALSE NEIGHBOUR: 'it returns false'. Refute it at one input. -/
def fnExactPlanOkWrong : ChangeSpec := { name := "fnExactPlanOk", fn := fun _ => fun
  | [d] => { results := [.lit (.bool false)], args := [d] }
  | _ => none }
def FnExactPlanOkWrongFalsely : Prop := fnExactPlanOkRow.holds Try.pinned (OpenSpec.ofChange fnExactPlanOkWrong)

/-- 'laws.FnExactJobCost': WHATEVER THE INPUT: true; the input reads as it did. -/
def fnExactJobCostSpec : ChangeSpec := { name := "fnExactJobCost", fn := fun _ => fun
  | [d] => { results := [.lit (.bool true)], args := [d] }
  | _ => none }
def fnExactJobCostRow : OpenClaim := { program := "ytgoebfelalapaaa", sum := "62ad9eb6b79c80f411937854a41489a1023b7d48a82b73afa9e797d98d4c4c9c", func := "loop.example/g00710/laws.FnExactJobCost", spec := "fnExactJobCost", apart := false }
def FnExactJobCostSaid : Prop := fnExactJobCostRow.holds Try.pinned (OpenSpec.ofChange fnExactJobCostSpec)

/-- ITS FALSE NEIGHBOUR: 'it returns false'. Refute it at one input. -/
def fnExactJobCostWrong : ChangeSpec := { name := "fnExactJobCost", fn := fun _ => fun
  | [d] => { results := [.lit (.bool false)], args := [d] }
  | _ => none }
def FnExactJobCostWrongFalsely : Prop := fnExactJobCostRow.holds Try.pinned (OpenSpec.ofChange fnExactJobCostWrong)

/-- 'laws.FnExactOddBack': WHATEVER THE INPUT: true; the input reads as it did. -/
def fnExactOddBackSpec : ChangeSpec := { name := "fnExactOddBack", fn := fun _ => fun
  | [d1, d2] => { results := [.lit (.bool true)], args := [d1, d2] }
  | _ => none }
def fnExactOddBackRow : OpenClaim := { program := "ytgoebfelalapaaa", sum := "62ad9eb6b79c80f411937854a41489a1023b7d48a82b73afa9e797d98d4c4c9c", func := "loop.example/g00710/laws.FnExactOddBack", spec := "fnExactOddBack", apart := false }
def FnExactOddBackSaid : Prop := fnExactOddBackRow.holds Try.pinned (OpenSpec.ofChange fnExactOddBackSpec)

/-- ITS FALSE NEIGHBOUR: 'it returns false'. Refute it at one input. -/
def fnExactOddBackWrong : ChangeSpec := { name := "fnExactOddBack", fn := fun _ => fun
  | [d1, d2] => { results := [.lit (.bool false)], args := [d1, d2] }
  | _ => none }
def FnExactOddBackWrongFalsely : Prop := fnExactOddBackRow.holds Try.pinned (OpenSpec.ofChange fnExactOddBackWrong)

/-- 'laws.FnExactEncodeJob': WHATEVER THE INPUT: true; the input reads as it did. -/
def fnExactEncodeJobSpec : ChangeSpec := { name := "fnExactEncodeJob", fn := fun _ => fun
  | [d] => { results := [.lit (.bool true)], args := [d] }
  | _ => none }
def fnExactEncodeJobRow : OpenClaim := { program := "ytgoebfelalapaaa", sum := "62ad9eb6b79c80f411937854a41489a1023b7d48a82b73afa9e797d98d4c4c9c", func := "loop.example/g00710/laws.FnExactEncodeJob", spec := "fnExactEncodeJob", apart := false }
def FnExactEncodeJobSaid : Prop := fnExactEncodeJobRow.holds Try.pinned (OpenSpec.ofChange fnExactEncodeJobSpec)

/-- ITS FALSE NEIGHBOUR: 'it returns false'. Refute it at one input. -/
def fnExactEncodeJobWrong : ChangeSpec := { name := "fnExactEncodeJob", fn := fun _ => fun
  | [d] => { results := [.lit (.bool false)], args := [d] }
  | _ => none }
def FnExactEncodeJobWrongFalsely : Prop := fnExactEncodeJobRow.holds Try.pinned (OpenSpec.ofChange fnExactEncodeJobWrong)

/- THE SECOND FORM. 'bulk': how many values and letters a reading holds, each counted each time it is reached (what is shared counts as often as it is met; a slice's spare places count too). A statement '..UptoSaid' is the law's where the arguments, and the package variables that the reading takes, are together of bulk at most 1048576: NARROWER than '..Said'. Prove '..Said' where nothing that the law and all that it calls make is longer than what came in: it says more and counts as full. Else prove '..UptoSaid'. A law counts once. -/
mutual
def uptoBulk {H : Type} : DataW H → Nat
  | .lit (.string bytes) => bytes.length + 1
  | .lit _ => 1
  | .nil => 1
  | .ptr d => uptoBulk d + 1
  | .slice elems spare => uptoBulkAll elems + uptoBulkAll spare + 1
  | .agg parts => uptoBulkAll parts + 1
  | .iface _ d => uptoBulk d + 1
  | .map entries => uptoBulkEntries entries + 1
  | .held _ => 1
def uptoBulkAll {H : Type} : List (DataW H) → Nat
  | [] => 0
  | d :: r => uptoBulk d + uptoBulkAll r
def uptoBulkEntries {H : Type} : List (Lit × DataW H) → Nat
  | [] => 0
  | x :: r => uptoBulkEntry x + uptoBulkEntries r
def uptoBulkEntry {H : Type} : Lit × DataW H → Nat
  | (.string bytes, d) => bytes.length + uptoBulk d + 1
  | (_, d) => uptoBulk d + 1
 end
def uptoSmall : (H : Type) → List (DataW H) → Bool := fun _ ds => decide (uptoBulkAll ds ≤ 1048576)
def OpenSpec.upto (s : _root_.Go.ChangeSpec) : _root_.Go.OpenSpec := { _root_.Go.OpenSpec.ofChange s with cond := some uptoSmall }

/-- 'laws.FnExactTakeNumber', WHERE WHAT IT READS IS OF BULK AT MOST 1048576: true; the input reads as it did. -/
def fnExactTakeNumberUptoRow : OpenClaim := { program := "ytgoebfelalapaaa", sum := "62ad9eb6b79c80f411937854a41489a1023b7d48a82b73afa9e797d98d4c4c9c", func := "loop.example/g00710/laws.FnExactTakeNumber", spec := "fnExactTakeNumber", apart := false, narrowed := true }
def FnExactTakeNumberUptoSaid : Prop := fnExactTakeNumberUptoRow.holds Try.pinned (OpenSpec.upto fnExactTakeNumberSpec)

/-- 'laws.FnExactEncodeFrame', WHERE WHAT IT READS IS OF BULK AT MOST 1048576: true; the input reads as it did. -/
def fnExactEncodeFrameUptoRow : OpenClaim := { program := "ytgoebfelalapaaa", sum := "62ad9eb6b79c80f411937854a41489a1023b7d48a82b73afa9e797d98d4c4c9c", func := "loop.example/g00710/laws.FnExactEncodeFrame", spec := "fnExactEncodeFrame", apart := false, narrowed := true }
def FnExactEncodeFrameUptoSaid : Prop := fnExactEncodeFrameUptoRow.holds Try.pinned (OpenSpec.upto fnExactEncodeFrameSpec)

/-- 'laws.FnExactPlanOk', WHERE WHAT IT READS IS OF BULK AT MOST 1048576: true; the input reads as it did. -/
def fnExactPlanOkUptoRow : OpenClaim := { program := "ytgoebfelalapaaa", sum := "62ad9eb6b79c80f411937854a41489a1023b7d48a82b73afa9e797d98d4c4c9c", func := "loop.example/g00710/laws.FnExactPlanOk", spec := "fnExactPlanOk", apart := false, narrowed := true }
def FnExactPlanOkUptoSaid : Prop := fnExactPlanOkUptoRow.holds Try.pinned (OpenSpec.upto fnExactPlanOkSpec)

/-- 'laws.FnExactJobCost', WHERE WHAT IT READS IS OF BULK AT MOST 1048576: true; the input reads as it did. -/
def fnExactJobCostUptoRow : OpenClaim := { program := "ytgoebfelalapaaa", sum := "62ad9eb6b79c80f411937854a41489a1023b7d48a82b73afa9e797d98d4c4c9c", func := "loop.example/g00710/laws.FnExactJobCost", spec := "fnExactJobCost", apart := false, narrowed := true }
def FnExactJobCostUptoSaid : Prop := fnExactJobCostUptoRow.holds Try.pinned (OpenSpec.upto fnExactJobCostSpec)

/-- 'laws.FnExactOddBack', WHERE WHAT IT READS IS OF BULK AT MOST 1048576: true; the input reads as it did. -/
def fnExactOddBackUptoRow : OpenClaim := { program := "ytgoebfelalapaaa", sum := "62ad9eb6b79c80f411937854a41489a1023b7d48a82b73afa9e797d98d4c4c9c", func := "loop.example/g00710/laws.FnExactOddBack", spec := "fnExactOddBack", apart := false, narrowed := true }
def FnExactOddBackUptoSaid : Prop := fnExactOddBackUptoRow.holds Try.pinned (OpenSpec.upto fnExactOddBackSpec)

/-- 'laws.FnExactEncodeJob', WHERE WHAT IT READS IS OF BULK AT MOST 1048576: true; the input reads as it did. -/
def fnExactEncodeJobUptoRow : OpenClaim := { program := "ytgoebfelalapaaa", sum := "62ad9eb6b79c80f411937854a41489a1023b7d48a82b73afa9e797d98d4c4c9c", func := "loop.example/g00710/laws.FnExactEncodeJob", spec := "fnExactEncodeJob", apart := false, narrowed := true }
def FnExactEncodeJobUptoSaid : Prop := fnExactEncodeJobUptoRow.holds Try.pinned (OpenSpec.upto fnExactEncodeJobSpec)

end Rows
end Go.Proofs.Ytgoebfelalapaaa

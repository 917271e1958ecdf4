/-
  No cell of these rows narrows 'for every input' (looked for: loops, veiled, ifaces, maps, wideKeys, modest, calm, conditions, laid).
  DERIVED. THE GIVEN ROWS OF THIS SEAT. 6 by the template 'for every input the law returns true; each argument reads behind the call as it read before'; 0 by the template 'total and deterministic' (their statements: YtjgggiophbnghabTotals.lean).
  GIVEN WITH THE SEED: the statements are not yours to turn. If you find one false, say at which input.
  Laid BY PROGRAM, IN A SANDBOX (cutbox-rows.mjs): the forced cells as the released guide's own fill.sh prints them over the translation 437ca3c143703168… (all of the seat's roots in one cut). By AI agents, Wed Nov 11 2026. No macro, syntax, notation, axiom, sorry.
-/
import Derived.Test.YtjgggiophbnghabChecked
import GoSem.Claim
import GoSem.ClaimJoined
import GoSem.ClaimMapViews
import Derived.JoinedTies
import Derived.KernelRfl
namespace Go.Proofs.Ytjgggiophbnghab
/- THE CELL 'sum', in the pinned program and in every row, IS THE sha256 OF THE DUMP (.gsa) THAT YtjgggiophbnghabProg.lean LOADS. Nothing in Lean hashes anything: it is a label: what it is worth is what the hold of that sum in a sandbox is worth. -/
noncomputable def Try.pinned : Pinned := { name := "ytjgggiophbnghab", sum := "437ca3c1437031683e277c73aaa7f640cf9d55dddc3ca2c85d9679e8b1429f9b", checked := Try.checked }
namespace Rows
def none {H : Type} : Left H := { results := [], args := [] }

/-- 'laws.FnExactLineOk': WHATEVER THE INPUT: true; the input reads as it did. -/
def fnExactLineOkSpec : ChangeSpec := { name := "fnExactLineOk", fn := fun _ => fun
  | [d] => { results := [.lit (.bool true)], args := [d] }
  | _ => none }
def fnExactLineOkRow : OpenClaim := { program := "ytjgggiophbnghab", sum := "437ca3c1437031683e277c73aaa7f640cf9d55dddc3ca2c85d9679e8b1429f9b", func := "loop.example/g00710/laws.FnExactLineOk", spec := "fnExactLineOk", apart := false }
def FnExactLineOkSaid : Prop := fnExactLineOkRow.holds Try.pinned (OpenSpec.ofChange fnExactLineOkSpec)

/-- ITS FALSE NEIGHBOUR: 'it returns false'. Refute it at one input. -/
def fnExactLineOkWrong : ChangeSpec := { name := "fnExactLineOk", fn := fun _ => fun
  | [d] => { results := [.lit (.bool false)], args := [d] }
  | _ => none }
def FnExactLineOkWrongFalsely : Prop := fnExactLineOkRow.holds Try.pinned (OpenSpec.ofChange fnExactLineOkWrong)

/-- 'laws.FnNumbers': WHATEVER THE INPUT: true; the input reads as it did. -/
def fnNumbersSpec : ChangeSpec := { name := "fnNumbers", fn := fun _ => fun
  | [d] => { results := [.lit (.bool true)], args := [d] }
  | _ => none }
def fnNumbersRow : OpenClaim := { program := "ytjgggiophbnghab", sum := "437ca3c1437031683e277c73aaa7f640cf9d55dddc3ca2c85d9679e8b1429f9b", func := "loop.example/g00710/laws.FnNumbers", spec := "fnNumbers", apart := false }
def FnNumbersSaid : Prop := fnNumbersRow.holds Try.pinned (OpenSpec.ofChange fnNumbersSpec)

/-- ITS FALSE NEIGHBOUR: 'it returns false'. Refute it at one input. -/
def fnNumbersWrong : ChangeSpec := { name := "fnNumbers", fn := fun _ => fun
  | [d] => { results := [.lit (.bool false)], args := [d] }
  | _ => none }
def FnNumbersWrongFalsely : Prop := fnNumbersRow.holds Try.pinned (OpenSpec.ofChange fnNumbersWrong)

/-- 'laws.FnExactTakeNumber': WHATEVER THE INPUT: true; the input reads as it did. -/
def fnExactTakeNumberSpec : ChangeSpec := { name := "fnExactTakeNumber", fn := fun _ => fun
  | [d1, d2] => { results := [.lit (.bool true)], args := [d1, d2] }
  | _ => none }
def fnExactTakeNumberRow : OpenClaim := { program := "ytjgggiophbnghab", sum := "437ca3c1437031683e277c73aaa7f640cf9d55dddc3ca2c85d9679e8b1429f9b", func := "loop.example/g00710/laws.FnExactTakeNumber", spec := "fnExactTakeNumber", apart := false }
def FnExactTakeNumberSaid : Prop := fnExactTakeNumberRow.holds Try.pinned (OpenSpec.ofChange fnExactTakeNumberSpec)

/-- ITS FALSE NEIGHBOUR: 'it returns false'. Refute it at one input. -/
def fnExactTakeNumberWrong : ChangeSpec := { name := "fnExactTakeNumber", fn := fun _ => fun
  | [d1, d2] => { results := [.lit (.bool false)], args := [d1, d2] }
  | _ => none }
def FnExactTakeNumberWrongFalsely : Prop := fnExactTakeNumberRow.holds Try.pinned (OpenSpec.ofChange fnExactTakeNumberWrong)

/-- 'laws.FnExactTaken': WHATEVER THE INPUT: true; the input reads as it did. -/
def fnExactTakenSpec : ChangeSpec := { name := "fnExactTaken", fn := fun _ => fun
  | [d1, d2] => { results := [.lit (.bool true)], args := [d1, d2] }
  | _ => none }
def fnExactTakenRow : OpenClaim := { program := "ytjgggiophbnghab", sum := "437ca3c1437031683e277c73aaa7f640cf9d55dddc3ca2c85d9679e8b1429f9b", func := "loop.example/g00710/laws.FnExactTaken", spec := "fnExactTaken", apart := false }
def FnExactTakenSaid : Prop := fnExactTakenRow.holds Try.pinned (OpenSpec.ofChange fnExactTakenSpec)

/-- ITS FALSE NEIGHBOUR: 'it returns false'. Refute it at one input. -/
def fnExactTakenWrong : ChangeSpec := { name := "fnExactTaken", fn := fun _ => fun
  | [d1, d2] => { results := [.lit (.bool false)], args := [d1, d2] }
  | _ => none }
def FnExactTakenWrongFalsely : Prop := fnExactTakenRow.holds Try.pinned (OpenSpec.ofChange fnExactTakenWrong)

/-- 'laws.FnExactJobOk': WHATEVER THE INPUT: true; the input reads as it did. -/
def fnExactJobOkSpec : ChangeSpec := { name := "fnExactJobOk", fn := fun _ => fun
  | [d] => { results := [.lit (.bool true)], args := [d] }
  | _ => none }
def fnExactJobOkRow : OpenClaim := { program := "ytjgggiophbnghab", sum := "437ca3c1437031683e277c73aaa7f640cf9d55dddc3ca2c85d9679e8b1429f9b", func := "loop.example/g00710/laws.FnExactJobOk", spec := "fnExactJobOk", apart := false }
def FnExactJobOkSaid : Prop := fnExactJobOkRow.holds Try.pinned (OpenSpec.ofChange fnExactJobOkSpec)

/-- ITS FALSE NEIGHBOUR: 'it returns false'. Refute it at one input. -/
def fnExactJobOkWrong : ChangeSpec := { name := "fnExactJobOk", fn := fun _ => fun
  | [d] => { results := [.lit (.bool false)], args := [d] }
  | _ => none }
def FnExactJobOkWrongFalsely : Prop := fnExactJobOkRow.holds Try.pinned (OpenSpec.ofChange fnExactJobOkWrong)

/-- 'laws.FnExactEncodeFrame': WHATEVER THE INPUT: true; the input reads as it did. -/
def fnExactEncodeFrameSpec : ChangeSpec := { name := "fnExactEncodeFrame", fn := fun _ => fun
  | [d] => { results := [.lit (.bool true)], args := [d] }
  | _ => none }
def fnExactEncodeFrameRow : OpenClaim := { program := "ytjgggiophbnghab", sum := "437ca3c1437031683e277c73aaa7f640cf9d55dddc3ca2c85d9679e8b1429f9b", func := "loop.example/g00710/laws.FnExactEncodeFrame", spec := "fnExactEncodeFrame", apart := false }
def FnExactEncodeFrameSaid : Prop := fnExactEncodeFrameRow.holds Try.pinned (OpenSpec.ofChange fnExactEncodeFrameSpec)

/-- ITS FALSE NEIGHBOUR: 'it returns false'. Refute it at one input. -/
def fnExactEncodeFrameWrong : ChangeSpec := { name := "fnExactEncodeFrame", fn := fun _ => fun
  | [d] => { results := [.lit (.bool false)], args := [d] }
  | _ => none }
def FnExactEncodeFrameWrongFalsely : Prop := fnExactEncodeFrameRow.holds Try.pinned (OpenSpec.ofChange fnExactEncodeFrameWrong)

/- THE SECOND FORM. 'bulk': how many values and letters a reading holds, each counted each time it is reached (what is shared counts as often as it is met; a slice's spare places count too). A statement '..UptoSaid' is the law's where the arguments, and the package variables that the reading takes, are together of bulk at most 1048576: NARROWER than '..Said'. Prove '..Said' where nothing that the law and all that it calls make is longer than what came in: it says more and counts as full. Else prove '..UptoSaid'. A law counts once. -/
mutual
def uptoBulk {H : Type} : DataW H → Nat
  | .lit (.string bytes) => bytes.length + 1
  | .lit _ => 1
  | .nil => 1
  | .ptr d => uptoBulk d + 1
  | .slice elems spare => uptoBulkAll elems + uptoBulkAll spare + 1
  | .agg parts => uptoBulkAll parts + 1
  | .iface _ d => uptoBulk d + 1
  | .map entries => uptoBulkEntries entries + 1
  | .held _ => 1
def uptoBulkAll {H : Type} : List (DataW H) → Nat
  | [] => 0
  | d :: r => uptoBulk d + uptoBulkAll r
def uptoBulkEntries {H : Type} : List (Lit × DataW H) → Nat
  | [] => 0
  | x :: r => uptoBulkEntry x + uptoBulkEntries r
def uptoBulkEntry {H : Type} : Lit × DataW H → Nat
  | (.string bytes, d) => bytes.length + uptoBulk d + 1
  | (_, d) => uptoBulk d + 1
 end
def uptoSmall : (H : Type) → List (DataW H) → Bool := fun _ ds => decide (uptoBulkAll ds ≤ 1048576)
def OpenSpec.upto (s : _root_.Go.ChangeSpec) : _root_.Go.OpenSpec := { _root_.Go.OpenSpec.ofChange s with cond := some uptoSmall }

/-- 'laws.FnExactLineOk', WHERE WHAT IT READS IS OF BULK AT MOST 1048576: true; the input reads as it did. -/
def fnExactLineOkUptoRow : OpenClaim := { program := "ytjgggiophbnghab", sum := "437ca3c1437031683e277c73aaa7f640cf9d55dddc3ca2c85d9679e8b1429f9b", func := "loop.example/g00710/laws.FnExactLineOk", spec := "fnExactLineOk", apart := false, narrowed := true }
def FnExactLineOkUptoSaid : Prop := fnExactLineOkUptoRow.holds Try.pinned (OpenSpec.upto fnExactLineOkSpec)

/-- 'laws.FnNumbers', WHERE WHAT IT READS IS OF BULK AT MOST 1048576: true; the input reads as it did. -/
def fnNumbersUptoRow : OpenClaim := { program := "ytjgggiophbnghab", sum := "437ca3c1437031683e277c73aaa7f640cf9d55dddc3ca2c85d9679e8b1429f9b", func := "loop.example/g00710/laws.FnNumbers", spec := "fnNumbers", apart := false, narrowed := true }
def FnNumbersUptoSaid : Prop := fnNumbersUptoRow.holds Try.pinned (OpenSpec.upto fnNumbersSpec)

/-- 'laws.FnExactTakeNumber', WHERE WHAT IT READS IS OF BULK AT MOST 1048576: true; the input reads as it did. -/
def fnExactTakeNumberUptoRow : OpenClaim := { program := "ytjgggiophbnghab", sum := "437ca3c1437031683e277c73aaa7f640cf9d55dddc3ca2c85d9679e8b1429f9b", func := "loop.example/g00710/laws.FnExactTakeNumber", spec := "fnExactTakeNumber", apart := false, narrowed := true }
def FnExactTakeNumberUptoSaid : Prop := fnExactTakeNumberUptoRow.holds Try.pinned (OpenSpec.upto fnExactTakeNumberSpec)

/-- 'laws.FnExactTaken', WHERE WHAT IT READS IS OF BULK AT MOST 1048576: true; the input reads as it did. -/
def fnExactTakenUptoRow : OpenClaim := { program := "ytjgggiophbnghab", sum := "437ca3c1437031683e277c73aaa7f640cf9d55dddc3ca2c85d9679e8b1429f9b", func := "loop.example/g00710/laws.FnExactTaken", spec := "fnExactTaken", apart := false, narrowed := true }
def FnExactTakenUptoSaid : Prop := fnExactTakenUptoRow.holds Try.pinned (OpenSpec.upto fnExactTakenSpec)

/-- 'laws.FnExactJobOk', WHERE WHAT IT READS IS OF BULK AT MOST 1048576: true; the input reads as it did. -/
def fnExactJobOkUptoRow : OpenClaim := { program := "ytjgggiophbnghab", sum := "437ca3c1437031683e277c73aaa7f640cf9d55dddc3ca2c85d9679e8b1429f9b", func := "loop.example/g00710/laws.FnExactJobOk", spec := "fnExactJobOk", apart := false, narrowed := true }
def FnExactJobOkUptoSaid : Prop := fnExactJobOkUptoRow.holds Try.pinned (OpenSpec.upto fnExactJobOkSpec)

/-- 'laws.FnExactEncodeFrame', WHERE WHAT IT READS IS OF BULK AT MOST 1048576: true; the input reads as it did. -/
def fnExactEncodeFrameUptoRow : OpenClaim := { program := "ytjgggiophbnghab", sum := "437ca3c1437031683e277c73aaa7f640cf9d55dddc3ca2c85d9679e8b1429f9b", func := "loop.example/g00710/laws.FnExactEncodeFrame", spec := "fnExactEncodeFrame", apart := false, narrowed := true }
def FnExactEncodeFrameUptoSaid : Prop := fnExactEncodeFrameUptoRow.holds Try.pinned (OpenSpec.upto fnExactEncodeFrameSpec)

end Rows
end Go.Proofs.Ytjgggiophbnghab

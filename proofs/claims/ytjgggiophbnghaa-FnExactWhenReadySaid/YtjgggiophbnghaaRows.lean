/-
  No cell of these rows narrows 'for every input' (looked for: loops, veiled, ifaces, maps, wideKeys, modest, calm, conditions, laid).
  DERIVED. THE GIVEN ROWS OF THIS SEAT. 6 by the template 'for every input the law returns true; each argument reads behind the call as it read before'; 0 by the template 'total and deterministic' (their statements: YtjgggiophbnghaaTotals.lean).
  GIVEN WITH THE SEED: the statements are not yours to turn. If you find one false, say at which input.
  Laid BY PROGRAM, IN A SANDBOX (cutbox-rows.mjs): the forced cells as the released guide's own fill.sh prints them over the translation 2a4bb23bbf841931… (all of the seat's roots in one cut). By AI agents, Wed Nov 11 2026. No macro, syntax, notation, axiom, sorry.
-/
import Derived.Test.YtjgggiophbnghaaChecked
import GoSem.Claim
import GoSem.ClaimJoined
import GoSem.ClaimMapViews
import Derived.JoinedTies
import Derived.KernelRfl
namespace Go.Proofs.Ytjgggiophbnghaa
/- THE CELL 'sum', in the pinned program and in every row, IS THE sha256 OF THE DUMP (.gsa) THAT YtjgggiophbnghaaProg.lean LOADS. Nothing in Lean hashes anything: it is a label: what it is worth is what the hold of that sum in a sandbox is worth. -/
noncomputable def Try.pinned : Pinned := { name := "ytjgggiophbnghaa", sum := "2a4bb23bbf8419317b4d17563e3794046bbebc2525bf47c177861321ae5d7f0a", checked := Try.checked }
namespace Rows
def none {H : Type} : Left H := { results := [], args := [] }

/-- 'laws.FnPlanAny': WHATEVER THE INPUT: true; the input reads as it did. -/
def fnPlanAnySpec : ChangeSpec := { name := "fnPlanAny", fn := fun _ => fun
  | [d] => { results := [.lit (.bool true)], args := [d] }
  | _ => none }
def fnPlanAnyRow : OpenClaim := { program := "ytjgggiophbnghaa", sum := "2a4bb23bbf8419317b4d17563e3794046bbebc2525bf47c177861321ae5d7f0a", func := "loop.example/g00710/laws.FnPlanAny", spec := "fnPlanAny", apart := false }
def FnPlanAnySaid : Prop := fnPlanAnyRow.holds Try.pinned (OpenSpec.ofChange fnPlanAnySpec)

/-- ITS FALSE NEIGHBOUR: 'it returns false'. Refute it at one input. -/
def fnPlanAnyWrong : ChangeSpec := { name := "fnPlanAny", fn := fun _ => fun
  | [d] => { results := [.lit (.bool false)], args := [d] }
  | _ => none }
def FnPlanAnyWrongFalsely : Prop := fnPlanAnyRow.holds Try.pinned (OpenSpec.ofChange fnPlanAnyWrong)

/-- 'laws.FnExactFrameOk': WHATEVER THE INPUT: true; the input reads as it did. -/
def fnExactFrameOkSpec : ChangeSpec := { name := "fnExactFrameOk", fn := fun _ => fun
  | [d] => { results := [.lit (.bool true)], args := [d] }
  | _ => none }
def fnExactFrameOkRow : OpenClaim := { program := "ytjgggiophbnghaa", sum := "2a4bb23bbf8419317b4d17563e3794046bbebc2525bf47c177861321ae5d7f0a", func := "loop.example/g00710/laws.FnExactFrameOk", spec := "fnExactFrameOk", apart := false }
def FnExactFrameOkSaid : Prop := fnExactFrameOkRow.holds Try.pinned (OpenSpec.ofChange fnExactFrameOkSpec)

/-- ITS FALSE NEIGHBOUR: 'it returns false'. Refute it at one input. -/
def fnExactFrameOkWrong : ChangeSpec := { name := "fnExactFrameOk", fn := fun _ => fun
  | [d] => { results := [.lit (.bool false)], args := [d] }
  | _ => none }
def FnExactFrameOkWrongFalsely : Prop := fnExactFrameOkRow.holds Try.pinned (OpenSpec.ofChange fnExactFrameOkWrong)

/-- 'laws.FnExactWhenReady': WHATEVER THE INPUT: true; the input reads as it did. -/
def fnExactWhenReadySpec : ChangeSpec := { name := "fnExactWhenReady", fn := fun _ => fun
  | [d1, d2] => { results := [.lit (.bool true)], args := [d1, d2] }
  | _ => none }
def fnExactWhenReadyRow : OpenClaim := { program := "ytjgggiophbnghaa", sum := "2a4bb23bbf8419317b4d17563e3794046bbebc2525bf47c177861321ae5d7f0a", func := "loop.example/g00710/laws.FnExactWhenReady", spec := "fnExactWhenReady", apart := false }
def FnExactWhenReadySaid : Prop := fnExactWhenReadyRow.holds Try.pinned (OpenSpec.ofChange fnExactWhenReadySpec)

/-- ITS FALSE NEIGHBOUR: 'it returns false'. Refute it at one input. -/
def fnExactWhenReadyWrong : ChangeSpec := { name := "fnExactWhenReady", fn := fun _ => fun
  | [d1, d2] => { results := [.lit (.bool false)], args := [d1, d2] }
  | _ => none }
def FnExactWhenReadyWrongFalsely : Prop := fnExactWhenReadyRow.holds Try.pinned (OpenSpec.ofChange fnExactWhenReadyWrong)

/-- 'laws.FnExactMerge': WHATEVER THE INPUT: true; the input reads as it did. -/
def fnExactMergeSpec : ChangeSpec := { name := "fnExactMerge", fn := fun _ => fun
  | [d1, d2] => { results := [.lit (.bool true)], args := [d1, d2] }
  | _ => none }
def fnExactMergeRow : OpenClaim := { program := "ytjgggiophbnghaa", sum := "2a4bb23bbf8419317b4d17563e3794046bbebc2525bf47c177861321ae5d7f0a", func := "loop.example/g00710/laws.FnExactMerge", spec := "fnExactMerge", apart := false }
def FnExactMergeSaid : Prop := fnExactMergeRow.holds Try.pinned (OpenSpec.ofChange fnExactMergeSpec)

/-- ITS FALSE NEIGHBOUR: 'it returns false'. Refute it at one input. -/
def fnExactMergeWrong : ChangeSpec := { name := "fnExactMerge", fn := fun _ => fun
  | [d1, d2] => { results := [.lit (.bool false)], args := [d1, d2] }
  | _ => none }
def FnExactMergeWrongFalsely : Prop := fnExactMergeRow.holds Try.pinned (OpenSpec.ofChange fnExactMergeWrong)

/-- 'laws.FnExactTakeUnits': WHATEVER THE INPUT: true; the input reads as it did. -/
def fnExactTakeUnitsSpec : ChangeSpec := { name := "fnExactTakeUnits", fn := fun _ => fun
  | [d1, d2, d3] => { results := [.lit (.bool true)], args := [d1, d2, d3] }
  | _ => none }
def fnExactTakeUnitsRow : OpenClaim := { program := "ytjgggiophbnghaa", sum := "2a4bb23bbf8419317b4d17563e3794046bbebc2525bf47c177861321ae5d7f0a", func := "loop.example/g00710/laws.FnExactTakeUnits", spec := "fnExactTakeUnits", apart := false }
def FnExactTakeUnitsSaid : Prop := fnExactTakeUnitsRow.holds Try.pinned (OpenSpec.ofChange fnExactTakeUnitsSpec)

/-- ITS FALSE NEIGHBOUR: 'it returns false'. Refute it at one input. -/
def fnExactTakeUnitsWrong : ChangeSpec := { name := "fnExactTakeUnits", fn := fun _ => fun
  | [d1, d2, d3] => { results := [.lit (.bool false)], args := [d1, d2, d3] }
  | _ => none }
def FnExactTakeUnitsWrongFalsely : Prop := fnExactTakeUnitsRow.holds Try.pinned (OpenSpec.ofChange fnExactTakeUnitsWrong)

/-- 'laws.FnLineOrder': WHATEVER THE INPUT: true; the input reads as it did. -/
def fnLineOrderSpec : ChangeSpec := { name := "fnLineOrder", fn := fun _ => fun
  | [d] => { results := [.lit (.bool true)], args := [d] }
  | _ => none }
def fnLineOrderRow : OpenClaim := { program := "ytjgggiophbnghaa", sum := "2a4bb23bbf8419317b4d17563e3794046bbebc2525bf47c177861321ae5d7f0a", func := "loop.example/g00710/laws.FnLineOrder", spec := "fnLineOrder", unfollowed := true, recurses := true, apart := false }
def FnLineOrderSaid : Prop := fnLineOrderRow.holds Try.pinned (OpenSpec.ofChange fnLineOrderSpec)

/-- ITS FALSE NEIGHBOUR: 'it returns false'. Refute it at one input. -/
def fnLineOrderWrong : ChangeSpec := { name := "fnLineOrder", fn := fun _ => fun
  | [d] => { results := [.lit (.bool false)], args := [d] }
  | _ => none }
def FnLineOrderWrongFalsely : Prop := fnLineOrderRow.holds Try.pinned (OpenSpec.ofChange fnLineOrderWrong)

/- THE SECOND FORM. 'bulk': how many values and letters a reading holds, each counted each time it is reached (what is shared counts as often as it is met; a slice's spare places count too). A statement '..UptoSaid' is the law's where the arguments, and the package variables that the reading takes, are together of bulk at most 1048576: NARROWER than '..Said'. Prove '..Said' where nothing that the law and all that it calls make is longer than what came in: it says more and counts as full. Else prove '..UptoSaid'. A law counts once. -/
mutual
def uptoBulk {H : Type} : DataW H → Nat
  | .lit (.string bytes) => bytes.length + 1
  | .lit _ => 1
  | .nil => 1
  | .ptr d => uptoBulk d + 1
  | .slice elems spare => uptoBulkAll elems + uptoBulkAll spare + 1
  | .agg parts => uptoBulkAll parts + 1
  | .iface _ d => uptoBulk d + 1
  | .map entries => uptoBulkEntries entries + 1
  | .held _ => 1
def uptoBulkAll {H : Type} : List (DataW H) → Nat
  | [] => 0
  | d :: r => uptoBulk d + uptoBulkAll r
def uptoBulkEntries {H : Type} : List (Lit × DataW H) → Nat
  | [] => 0
  | x :: r => uptoBulkEntry x + uptoBulkEntries r
def uptoBulkEntry {H : Type} : Lit × DataW H → Nat
  | (.string bytes, d) => bytes.length + uptoBulk d + 1
  | (_, d) => uptoBulk d + 1
 end
def uptoSmall : (H : Type) → List (DataW H) → Bool := fun _ ds => decide (uptoBulkAll ds ≤ 1048576)
def OpenSpec.upto (s : _root_.Go.ChangeSpec) : _root_.Go.OpenSpec := { _root_.Go.OpenSpec.ofChange s with cond := some uptoSmall }

/-- 'laws.FnPlanAny', WHERE WHAT IT READS IS OF BULK AT MOST 1048576: true; the input reads as it did. -/
def fnPlanAnyUptoRow : OpenClaim := { program := "ytjgggiophbnghaa", sum := "2a4bb23bbf8419317b4d17563e3794046bbebc2525bf47c177861321ae5d7f0a", func := "loop.example/g00710/laws.FnPlanAny", spec := "fnPlanAny", apart := false, narrowed := true }
def FnPlanAnyUptoSaid : Prop := fnPlanAnyUptoRow.holds Try.pinned (OpenSpec.upto fnPlanAnySpec)

/-- 'laws.FnExactFrameOk', WHERE WHAT IT READS IS OF BULK AT MOST 1048576: true; the input reads as it did. -/
def fnExactFrameOkUptoRow : OpenClaim := { program := "ytjgggiophbnghaa", sum := "2a4bb23bbf8419317b4d17563e3794046bbebc2525bf47c177861321ae5d7f0a", func := "loop.example/g00710/laws.FnExactFrameOk", spec := "fnExactFrameOk", apart := false, narrowed := true }
def FnExactFrameOkUptoSaid : Prop := fnExactFrameOkUptoRow.holds Try.pinned (OpenSpec.upto fnExactFrameOkSpec)

/-- 'laws.FnExactWhenReady', WHERE WHAT IT READS IS OF BULK AT MOST 1048576: true; the input reads as it did. -/
def fnExactWhenReadyUptoRow : OpenClaim := { program := "ytjgggiophbnghaa", sum := "2a4bb23bbf8419317b4d17563e3794046bbebc2525bf47c177861321ae5d7f0a", func := "loop.example/g00710/laws.FnExactWhenReady", spec := "fnExactWhenReady", apart := false, narrowed := true }
def FnExactWhenReadyUptoSaid : Prop := fnExactWhenReadyUptoRow.holds Try.pinned (OpenSpec.upto fnExactWhenReadySpec)

/-- 'laws.FnExactMerge', WHERE WHAT IT READS IS OF BULK AT MOST 1048576: true; the input reads as it did. -/
def fnExactMergeUptoRow : OpenClaim := { program := "ytjgggiophbnghaa", sum := "2a4bb23bbf8419317b4d17563e3794046bbebc2525bf47c177861321ae5d7f0a", func := "loop.example/g00710/laws.FnExactMerge", spec := "fnExactMerge", apart := false, narrowed := true }
def FnExactMergeUptoSaid : Prop := fnExactMergeUptoRow.holds Try.pinned (OpenSpec.upto fnExactMergeSpec)

/-- 'laws.FnExactTakeUnits', WHERE WHAT IT READS IS OF BULK AT MOST 1048576: true; the input reads as it did. -/
def fnExactTakeUnitsUptoRow : OpenClaim := { program := "ytjgggiophbnghaa", sum := "2a4bb23bbf8419317b4d17563e3794046bbebc2525bf47c177861321ae5d7f0a", func := "loop.example/g00710/laws.FnExactTakeUnits", spec := "fnExactTakeUnits", apart := false, narrowed := true }
def FnExactTakeUnitsUptoSaid : Prop := fnExactTakeUnitsUptoRow.holds Try.pinned (OpenSpec.upto fnExactTakeUnitsSpec)

/-- 'laws.FnLineOrder', WHERE WHAT IT READS IS OF BULK AT MOST 1048576: true; the input reads as it did. -/
def fnLineOrderUptoRow : OpenClaim := { program := "ytjgggiophbnghaa", sum := "2a4bb23bbf8419317b4d17563e3794046bbebc2525bf47c177861321ae5d7f0a", func := "loop.example/g00710/laws.FnLineOrder", spec := "fnLineOrder", unfollowed := true, recurses := true, apart := false, narrowed := true }
def FnLineOrderUptoSaid : Prop := fnLineOrderUptoRow.holds Try.pinned (OpenSpec.upto fnLineOrderSpec)

end Rows
end Go.Proofs.Ytjgggiophbnghaa

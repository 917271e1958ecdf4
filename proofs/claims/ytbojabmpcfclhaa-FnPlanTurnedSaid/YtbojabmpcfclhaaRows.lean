/-
  No cell of these rows narrows 'for every input' (looked for: loops, veiled, ifaces, maps, wideKeys, modest, calm, conditions, laid).
  DERIVED. THE GIVEN ROWS OF THIS SEAT. 6 by the template 'for every input the law returns true; each argument reads behind the call as it read before'; 0 by the template 'total and deterministic' (their statements: YtbojabmpcfclhaaTotals.lean).
  GIVEN WITH THE SEED: the statements are not yours to turn. If you find one false, say at which input.
  Laid BY PROGRAM, IN A SANDBOX (cutbox-rows.mjs): the forced cells as the released guide's own fill.sh prints them over the translation 8d635de74823ee7c… (all of the seat's roots in one cut). By AI agents, Wed Nov 11 2026. No macro, syntax, notation, axiom, sorry.
-/
import Derived.Test.YtbojabmpcfclhaaChecked
import GoSem.Claim
import GoSem.ClaimJoined
import GoSem.ClaimMapViews
import Derived.JoinedTies
import Derived.KernelRfl
namespace Go.Proofs.Ytbojabmpcfclhaa
/- THE CELL 'sum', in the pinned program and in every row, IS THE sha256 OF THE DUMP (.gsa) THAT YtbojabmpcfclhaaProg.lean LOADS. Nothing in Lean hashes anything: it is a label: what it is worth is what the hold of that sum in a sandbox is worth. -/
noncomputable def Try.pinned : Pinned := { name := "ytbojabmpcfclhaa", sum := "8d635de74823ee7cd2a2661b3bb347ed90be6e8edbc287ea7feb9048a0ecac81", checked := Try.checked }
namespace Rows
def none {H : Type} : Left H := { results := [], args := [] }

/-- 'laws.FnPlanAny': WHATEVER THE INPUT: true; the input reads as it did. -/
def fnPlanAnySpec : ChangeSpec := { name := "fnPlanAny", fn := fun _ => fun
  | [d] => { results := [.lit (.bool true)], args := [d] }
  | _ => none }
def fnPlanAnyRow : OpenClaim := { program := "ytbojabmpcfclhaa", sum := "8d635de74823ee7cd2a2661b3bb347ed90be6e8edbc287ea7feb9048a0ecac81", func := "loop.example/g00710/laws.FnPlanAny", spec := "fnPlanAny", apart := false }
def FnPlanAnySaid : Prop := fnPlanAnyRow.holds Try.pinned (OpenSpec.ofChange fnPlanAnySpec)

/-- ITS FALSE NEIGHBOUR: 'it returns false'. Refute it at one input. -/
def fnPlanAnyWrong : ChangeSpec := { name := "fnPlanAny", fn := fun _ => fun
  | [d] => { results := [.lit (.bool false)], args := [d] }
  | _ => none }
def FnPlanAnyWrongFalsely : Prop := fnPlanAnyRow.holds Try.pinned (OpenSpec.ofChange fnPlanAnyWrong)

/-- 'laws.FnExactPackJobs': WHATEVER THE INPUT: true; the input reads as it did. -/
def fnExactPackJobsSpec : ChangeSpec := { name := "fnExactPackJobs", fn := fun _ => fun
  | [d1, d2, d3] => { results := [.lit (.bool true)], args := [d1, d2, d3] }
  | _ => none }
def fnExactPackJobsRow : OpenClaim := { program := "ytbojabmpcfclhaa", sum := "8d635de74823ee7cd2a2661b3bb347ed90be6e8edbc287ea7feb9048a0ecac81", func := "loop.example/g00710/laws.FnExactPackJobs", spec := "fnExactPackJobs", apart := false }
def FnExactPackJobsSaid : Prop := fnExactPackJobsRow.holds Try.pinned (OpenSpec.ofChange fnExactPackJobsSpec)

/-- ITS FALSE NEIGHBOUR: 'it returns false'. Refute it at one input. -/
def fnExactPackJobsWrong : ChangeSpec := { name := "fnExactPackJobs", fn := fun _ => fun
  | [d1, d2, d3] => { results := [.lit (.bool false)], args := [d1, d2, d3] }
  | _ => none }
def FnExactPackJobsWrongFalsely : Prop := fnExactPackJobsRow.holds Try.pinned (OpenSpec.ofChange fnExactPackJobsWrong)

/-- 'laws.FnPlanTurned': WHATEVER THE INPUT: true; the input reads as it did. -/
def fnPlanTurnedSpec : ChangeSpec := { name := "fnPlanTurned", fn := fun _ => fun
  | [d] => { results := [.lit (.bool true)], args := [d] }
  | _ => none }
def fnPlanTurnedRow : OpenClaim := { program := "ytbojabmpcfclhaa", sum := "8d635de74823ee7cd2a2661b3bb347ed90be6e8edbc287ea7feb9048a0ecac81", func := "loop.example/g00710/laws.FnPlanTurned", spec := "fnPlanTurned", apart := false }
def FnPlanTurnedSaid : Prop := fnPlanTurnedRow.holds Try.pinned (OpenSpec.ofChange fnPlanTurnedSpec)

/-- ITS FALSE NEIGHBOUR: 'it returns false'. Refute it at one input. -/
def fnPlanTurnedWrong : ChangeSpec := { name := "fnPlanTurned", fn := fun _ => fun
  | [d] => { results := [.lit (.bool false)], args := [d] }
  | _ => none }
def FnPlanTurnedWrongFalsely : Prop := fnPlanTurnedRow.holds Try.pinned (OpenSpec.ofChange fnPlanTurnedWrong)

/-- 'laws.FnExactRingInverse': WHATEVER THE INPUT: true; the input reads as it did. -/
def fnExactRingInverseSpec : ChangeSpec := { name := "fnExactRingInverse", fn := fun _ => fun
  | [d1, d2] => { results := [.lit (.bool true)], args := [d1, d2] }
  | _ => none }
def fnExactRingInverseRow : OpenClaim := { program := "ytbojabmpcfclhaa", sum := "8d635de74823ee7cd2a2661b3bb347ed90be6e8edbc287ea7feb9048a0ecac81", func := "loop.example/g00710/laws.FnExactRingInverse", spec := "fnExactRingInverse", apart := false }
def FnExactRingInverseSaid : Prop := fnExactRingInverseRow.holds Try.pinned (OpenSpec.ofChange fnExactRingInverseSpec)

/-- ITS FALSE NEIGHBOUR: 'it returns false'. Refute it at one input. -/
def fnExactRingInverseWrong : ChangeSpec := { name := "fnExactRingInverse", fn := fun _ => fun
  | [d1, d2] => { results := [.lit (.bool false)], args := [d1, d2] }
  | _ => none }
def FnExactRingInverseWrongFalsely : Prop := fnExactRingInverseRow.holds Try.pinned (OpenSpec.ofChange fnExactRingInverseWrong)

/-- 'laws.FnLineOrder': WHATEVER THE INPUT: true; the input reads as it did. -/
def fnLineOrderSpec : ChangeSpec := { name := "fnLineOrder", fn := fun _ => fun
  | [d] => { results := [.lit (.bool true)], args := [d] }
  | _ => none }
def fnLineOrderRow : OpenClaim := { program := "ytbojabmpcfclhaa", sum := "8d635de74823ee7cd2a2661b3bb347ed90be6e8edbc287ea7feb9048a0ecac81", func := "loop.example/g00710/laws.FnLineOrder", spec := "fnLineOrder", unfollowed := true, recurses := true, apart := false }
def FnLineOrderSaid : Prop := fnLineOrderRow.holds Try.pinned (OpenSpec.ofChange fnLineOrderSpec)

/-- ITS FALSE NEIGHBOUR: 'it returns false'. Refute it at one input. -/
def fnLineOrderWrong : ChangeSpec := { name := "fnLineOrder", fn := fun _ => fun
  | [d] => { results := [.lit (.bool false)], args := [d] }
  | _ => none }
def FnLineOrderWrongFalsely : Prop := fnLineOrderRow.holds Try.pinned (OpenSpec.ofChange fnLineOrderWrong)

/-- 'laws.FnExactFeed': WHATEVER THE INPUT: true; the input reads as it did. -/
def fnExactFeedSpec : ChangeSpec := { name := "fnExactFeed", fn := fun _ => fun
  | [d1, d2] => { results := [.lit (.bool true)], args := [d1, d2] }
  | _ => none }
def fnExactFeedRow : OpenClaim := { program := "ytbojabmpcfclhaa", sum := "8d635de74823ee7cd2a2661b3bb347ed90be6e8edbc287ea7feb9048a0ecac81", func := "loop.example/g00710/laws.FnExactFeed", spec := "fnExactFeed", apart := false }
def FnExactFeedSaid : Prop := fnExactFeedRow.holds Try.pinned (OpenSpec.ofChange fnExactFeedSpec)

/-- ITS FALSE NEIGHBOUR: 'it returns false'. Refute it at one input. -/
def fnExactFeedWrong : ChangeSpec := { name := "fnExactFeed", fn := fun _ => fun
  | [d1, d2] => { results := [.lit (.bool false)], args := [d1, d2] }
  | _ => none }
def FnExactFeedWrongFalsely : Prop := fnExactFeedRow.holds Try.pinned (OpenSpec.ofChange fnExactFeedWrong)

/- THE SECOND FORM. 'bulk': how many values and letters a reading holds, each counted each time it is reached (what is shared counts as often as it is met; a slice's spare places count too). A statement '..UptoSaid' is the law's where the arguments, and the package variables that the reading takes, are together of bulk at most 1048576: NARROWER than '..Said'. Prove '..Said' where nothing that the law and all that it calls make is longer than what came in: it says more and counts as full. Else prove '..UptoSaid'. A law counts once. -/
mutual
def uptoBulk {H : Type} : DataW H → Nat
  | .lit (.string bytes) => bytes.length + 1
  | .lit _ => 1
  | .nil => 1
  | .ptr d => uptoBulk d + 1
  | .slice elems spare => uptoBulkAll elems + uptoBulkAll spare + 1
  | .agg parts => uptoBulkAll parts + 1
  | .iface _ d => uptoBulk d + 1
  | .map entries => uptoBulkEntries entries + 1
  | .held _ => 1
def uptoBulkAll {H : Type} : List (DataW H) → Nat
  | [] => 0
  | d :: r => uptoBulk d + uptoBulkAll r
def uptoBulkEntries {H : Type} : List (Lit × DataW H) → Nat
  | [] => 0
  | x :: r => uptoBulkEntry x + uptoBulkEntries r
def uptoBulkEntry {H : Type} : Lit × DataW H → Nat
  | (.string bytes, d) => bytes.length + uptoBulk d + 1
  | (_, d) => uptoBulk d + 1
 end
def uptoSmall : (H : Type) → List (DataW H) → Bool := fun _ ds => decide (uptoBulkAll ds ≤ 1048576)
def OpenSpec.upto (s : _root_.Go.ChangeSpec) : _root_.Go.OpenSpec := { _root_.Go.OpenSpec.ofChange s with cond := some uptoSmall }

/-- 'laws.FnPlanAny', WHERE WHAT IT READS IS OF BULK AT MOST 1048576: true; the input reads as it did. -/
def fnPlanAnyUptoRow : OpenClaim := { program := "ytbojabmpcfclhaa", sum := "8d635de74823ee7cd2a2661b3bb347ed90be6e8edbc287ea7feb9048a0ecac81", func := "loop.example/g00710/laws.FnPlanAny", spec := "fnPlanAny", apart := false, narrowed := true }
def FnPlanAnyUptoSaid : Prop := fnPlanAnyUptoRow.holds Try.pinned (OpenSpec.upto fnPlanAnySpec)

/-- 'laws.FnExactPackJobs', WHERE WHAT IT READS IS OF BULK AT MOST 1048576: true; the input reads as it did. -/
def fnExactPackJobsUptoRow : OpenClaim := { program := "ytbojabmpcfclhaa", sum := "8d635de74823ee7cd2a2661b3bb347ed90be6e8edbc287ea7feb9048a0ecac81", func := "loop.example/g00710/laws.FnExactPackJobs", spec := "fnExactPackJobs", apart := false, narrowed := true }
def FnExactPackJobsUptoSaid : Prop := fnExactPackJobsUptoRow.holds Try.pinned (OpenSpec.upto fnExactPackJobsSpec)

/-- 'laws.FnPlanTurned', WHERE WHAT IT READS IS OF BULK AT MOST 1048576: true; the input reads as it did. -/
def fnPlanTurnedUptoRow : OpenClaim := { program := "ytbojabmpcfclhaa", sum := "8d635de74823ee7cd2a2661b3bb347ed90be6e8edbc287ea7feb9048a0ecac81", func := "loop.example/g00710/laws.FnPlanTurned", spec := "fnPlanTurned", apart := false, narrowed := true }
def FnPlanTurnedUptoSaid : Prop := fnPlanTurnedUptoRow.holds Try.pinned (OpenSpec.upto fnPlanTurnedSpec)

/-- 'laws.FnExactRingInverse', WHERE WHAT IT READS IS OF BULK AT MOST 1048576: true; the input reads as it did. -/
def fnExactRingInverseUptoRow : OpenClaim := { program := "ytbojabmpcfclhaa", sum := "8d635de74823ee7cd2a2661b3bb347ed90be6e8edbc287ea7feb9048a0ecac81", func := "loop.example/g00710/laws.FnExactRingInverse", spec := "fnExactRingInverse", apart := false, narrowed := true }
def FnExactRingInverseUptoSaid : Prop := fnExactRingInverseUptoRow.holds Try.pinned (OpenSpec.upto fnExactRingInverseSpec)

/-- 'laws.FnLineOrder', WHERE WHAT IT READS IS OF BULK AT MOST 1048576: true; the input reads as it did. -/
def fnLineOrderUptoRow : OpenClaim := { program := "ytbojabmpcfclhaa", sum := "8d635de74823ee7cd2a2661b3bb347ed90be6e8edbc287ea7feb9048a0ecac81", func := "loop.example/g00710/laws.FnLineOrder", spec := "fnLineOrder", unfollowed := true, recurses := true, apart := false, narrowed := true }
def FnLineOrderUptoSaid : Prop := fnLineOrderUptoRow.holds Try.pinned (OpenSpec.upto fnLineOrderSpec)

/-- 'laws.FnExactFeed', WHERE WHAT IT READS IS OF BULK AT MOST 1048576: true; the input reads as it did. -/
def fnExactFeedUptoRow : OpenClaim := { program := "ytbojabmpcfclhaa", sum := "8d635de74823ee7cd2a2661b3bb347ed90be6e8edbc287ea7feb9048a0ecac81", func := "loop.example/g00710/laws.FnExactFeed", spec := "fnExactFeed", apart := false, narrowed := true }
def FnExactFeedUptoSaid : Prop := fnExactFeedUptoRow.holds Try.pinned (OpenSpec.upto fnExactFeedSpec)

end Rows
end Go.Proofs.Ytbojabmpcfclhaa

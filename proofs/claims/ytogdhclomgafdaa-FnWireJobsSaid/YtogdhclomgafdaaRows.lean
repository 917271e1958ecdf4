/-
  No cell of these rows narrows 'for every input' (looked for: loops, veiled, ifaces, maps, wideKeys, modest, calm, conditions, laid).
  DERIVED. THE GIVEN ROWS OF THIS SEAT. 6 by the template 'for every input the law returns true; each argument reads behind the call as it read before'; 0 by the template 'total and deterministic' (their statements: YtogdhclomgafdaaTotals.lean).
  GIVEN WITH THE SEED: the statements are not yours to turn. If you find one false, say at which input.
  Laid BY PROGRAM, IN A SANDBOX (cutbox-rows.mjs): the forced cells as the released guide's own fill.sh prints them over the translation 1458a01e0c3b8c06… (all of the seat's roots in one cut). By AI agents, Wed Nov 11 2026. No macro, syntax, notation, axiom, sorry.
-/
import Derived.Test.YtogdhclomgafdaaChecked
import GoSem.Claim
import GoSem.ClaimJoined
import GoSem.ClaimMapViews
import Derived.JoinedTies
import Derived.KernelRfl
namespace Go.Proofs.Ytogdhclomgafdaa
/- THE CELL 'sum', in the pinned program and in every row, IS THE sha256 OF THE DUMP (.gsa) THAT YtogdhclomgafdaaProg.lean LOADS. Nothing in Lean hashes anything: it is a label: what it is worth is what the hold of that sum in a sandbox is worth. -/
noncomputable def Try.pinned : Pinned := { name := "ytogdhclomgafdaa", sum := "1458a01e0c3b8c06fe8f2cd30718339af84368d5b50165f4c872ab00c06f0a99", checked := Try.checked }
namespace Rows
def none {H : Type} : Left H := { results := [], args := [] }

/-- 'laws.FnDealt': WHATEVER THE INPUT: true; the input reads as it did. -/
def fnDealtSpec : ChangeSpec := { name := "fnDealt", fn := fun _ => fun
  | [d] => { results := [.lit (.bool true)], args := [d] }
  | _ => none }
def fnDealtRow : OpenClaim := { program := "ytogdhclomgafdaa", sum := "1458a01e0c3b8c06fe8f2cd30718339af84368d5b50165f4c872ab00c06f0a99", func := "loop.example/g00710/laws.FnDealt", spec := "fnDealt", plainKeys := false, apart := false }
def FnDealtSaid : Prop := fnDealtRow.holds Try.pinned (OpenSpec.ofChange fnDealtSpec)

/-- ITS FALSE NEIGHBOUR: 'it returns false'. Refute it at one input. -/
def fnDealtWrong : ChangeSpec := { name := "fnDealt", fn := fun _ => fun
  | [d] => { results := [.lit (.bool false)], args := [d] }
  | _ => none }
def FnDealtWrongFalsely : Prop := fnDealtRow.holds Try.pinned (OpenSpec.ofChange fnDealtWrong)

/-- 'laws.FnExactDeal': WHATEVER THE INPUT: true; the input reads as it did. -/
def fnExactDealSpec : ChangeSpec := { name := "fnExactDeal", fn := fun _ => fun
  | [d1, d2] => { results := [.lit (.bool true)], args := [d1, d2] }
  | _ => none }
def fnExactDealRow : OpenClaim := { program := "ytogdhclomgafdaa", sum := "1458a01e0c3b8c06fe8f2cd30718339af84368d5b50165f4c872ab00c06f0a99", func := "loop.example/g00710/laws.FnExactDeal", spec := "fnExactDeal", plainKeys := false, apart := false }
def FnExactDealSaid : Prop := fnExactDealRow.holds Try.pinned (OpenSpec.ofChange fnExactDealSpec)

/-- ITS FALSE NEIGHBOUR: 'it returns false'. Refute it at one input. -/
def fnExactDealWrong : ChangeSpec := { name := "fnExactDeal", fn := fun _ => fun
  | [d1, d2] => { results := [.lit (.bool false)], args := [d1, d2] }
  | _ => none }
def FnExactDealWrongFalsely : Prop := fnExactDealRow.holds Try.pinned (OpenSpec.ofChange fnExactDealWrong)

/-- 'laws.FnExactUnpackJobs': WHATEVER THE INPUT: true; the input reads as it did. -/
def fnExactUnpackJobsSpec : ChangeSpec := { name := "fnExactUnpackJobs", fn := fun _ => fun
  | [d] => { results := [.lit (.bool true)], args := [d] }
  | _ => none }
def fnExactUnpackJobsRow : OpenClaim := { program := "ytogdhclomgafdaa", sum := "1458a01e0c3b8c06fe8f2cd30718339af84368d5b50165f4c872ab00c06f0a99", func := "loop.example/g00710/laws.FnExactUnpackJobs", spec := "fnExactUnpackJobs", plainKeys := false, apart := false }
def FnExactUnpackJobsSaid : Prop := fnExactUnpackJobsRow.holds Try.pinned (OpenSpec.ofChange fnExactUnpackJobsSpec)

/-- ITS FALSE NEIGHBOUR: 'it returns false'. Refute it at one input. -/
def fnExactUnpackJobsWrong : ChangeSpec := { name := "fnExactUnpackJobs", fn := fun _ => fun
  | [d] => { results := [.lit (.bool false)], args := [d] }
  | _ => none }
def FnExactUnpackJobsWrongFalsely : Prop := fnExactUnpackJobsRow.holds Try.pinned (OpenSpec.ofChange fnExactUnpackJobsWrong)

/-- 'laws.FnExactFeedAll': WHATEVER THE INPUT: true; the input reads as it did. -/
def fnExactFeedAllSpec : ChangeSpec := { name := "fnExactFeedAll", fn := fun _ => fun
  | [d] => { results := [.lit (.bool true)], args := [d] }
  | _ => none }
def fnExactFeedAllRow : OpenClaim := { program := "ytogdhclomgafdaa", sum := "1458a01e0c3b8c06fe8f2cd30718339af84368d5b50165f4c872ab00c06f0a99", func := "loop.example/g00710/laws.FnExactFeedAll", spec := "fnExactFeedAll", plainKeys := false, apart := false }
def FnExactFeedAllSaid : Prop := fnExactFeedAllRow.holds Try.pinned (OpenSpec.ofChange fnExactFeedAllSpec)

/-- ITS FALSE NEIGHBOUR: 'it returns false'. Refute it at one input. -/
def fnExactFeedAllWrong : ChangeSpec := { name := "fnExactFeedAll", fn := fun _ => fun
  | [d] => { results := [.lit (.bool false)], args := [d] }
  | _ => none }
def FnExactFeedAllWrongFalsely : Prop := fnExactFeedAllRow.holds Try.pinned (OpenSpec.ofChange fnExactFeedAllWrong)

/-- 'laws.FnJobBytes': WHATEVER THE INPUT: true; the input reads as it did. -/
def fnJobBytesSpec : ChangeSpec := { name := "fnJobBytes", fn := fun _ => fun
  | [d] => { results := [.lit (.bool true)], args := [d] }
  | _ => none }
def fnJobBytesRow : OpenClaim := { program := "ytogdhclomgafdaa", sum := "1458a01e0c3b8c06fe8f2cd30718339af84368d5b50165f4c872ab00c06f0a99", func := "loop.example/g00710/laws.FnJobBytes", spec := "fnJobBytes", plainKeys := false, apart := false }
def FnJobBytesSaid : Prop := fnJobBytesRow.holds Try.pinned (OpenSpec.ofChange fnJobBytesSpec)

/-- ITS FALSE NEIGHBOUR: 'it returns false'. Refute it at one input. -/
def fnJobBytesWrong : ChangeSpec := { name := "fnJobBytes", fn := fun _ => fun
  | [d] => { results := [.lit (.bool false)], args := [d] }
  | _ => none }
def FnJobBytesWrongFalsely : Prop := fnJobBytesRow.holds Try.pinned (OpenSpec.ofChange fnJobBytesWrong)

/-- 'laws.FnWireJobs': WHATEVER THE INPUT: true; the input reads as it did. -/
def fnWireJobsSpec : ChangeSpec := { name := "fnWireJobs", fn := fun _ => fun
  | [d] => { results := [.lit (.bool true)], args := [d] }
  | _ => none }
def fnWireJobsRow : OpenClaim := { program := "ytogdhclomgafdaa", sum := "1458a01e0c3b8c06fe8f2cd30718339af84368d5b50165f4c872ab00c06f0a99", func := "loop.example/g00710/laws.FnWireJobs", spec := "fnWireJobs", plainKeys := false, apart := false }
def FnWireJobsSaid : Prop := fnWireJobsRow.holds Try.pinned (OpenSpec.ofChange fnWireJobsSpec)

/-- ITS FALSE NEIGHBOUR: 'it returns false'. Refute it at one input. -/
def fnWireJobsWrong : ChangeSpec := { name := "fnWireJobs", fn := fun _ => fun
  | [d] => { results := [.lit (.bool false)], args := [d] }
  | _ => none }
def FnWireJobsWrongFalsely : Prop := fnWireJobsRow.holds Try.pinned (OpenSpec.ofChange fnWireJobsWrong)

/- THE SECOND FORM. 'bulk': how many values and letters a reading holds, each counted each time it is reached (what is shared counts as often as it is met; a slice's spare places count too). A statement '..UptoSaid' is the law's where the arguments, and the package variables that the reading takes, are together of bulk at most 1048576: NARROWER than '..Said'. Prove '..Said' where nothing that the law and all that it calls make is longer than what came in: it says more and counts as full. Else prove '..UptoSaid'. A law counts once. -/
mutual
def uptoBulk {H : Type} : DataW H → Nat
  | .lit (.string bytes) => bytes.length + 1
  | .lit _ => 1
  | .nil => 1
  | .ptr d => uptoBulk d + 1
  | .slice elems spare => uptoBulkAll elems + uptoBulkAll spare + 1
  | .agg parts => uptoBulkAll parts + 1
  | .iface _ d => uptoBulk d + 1
  | .map entries => uptoBulkEntries entries + 1
  | .held _ => 1
def uptoBulkAll {H : Type} : List (DataW H) → Nat
  | [] => 0
  | d :: r => uptoBulk d + uptoBulkAll r
def uptoBulkEntries {H : Type} : List (Lit × DataW H) → Nat
  | [] => 0
  | x :: r => uptoBulkEntry x + uptoBulkEntries r
def uptoBulkEntry {H : Type} : Lit × DataW H → Nat
  | (.string bytes, d) => bytes.length + uptoBulk d + 1
  | (_, d) => uptoBulk d + 1
 end
def uptoSmall : (H : Type) → List (DataW H) → Bool := fun _ ds => decide (uptoBulkAll ds ≤ 1048576)
def OpenSpec.upto (s : _root_.Go.ChangeSpec) : _root_.Go.OpenSpec := { _root_.Go.OpenSpec.ofChange s with cond := some uptoSmall }

/-- 'laws.FnDealt', WHERE WHAT IT READS IS OF BULK AT MOST 1048576: true; the input reads as it did. -/
def fnDealtUptoRow : OpenClaim := { program := "ytogdhclomgafdaa", sum := "1458a01e0c3b8c06fe8f2cd30718339af84368d5b50165f4c872ab00c06f0a99", func := "loop.example/g00710/laws.FnDealt", spec := "fnDealt", plainKeys := false, apart := false, narrowed := true }
def FnDealtUptoSaid : Prop := fnDealtUptoRow.holds Try.pinned (OpenSpec.upto fnDealtSpec)

/-- 'laws.FnExactDeal', WHERE WHAT IT READS IS OF BULK AT MOST 1048576: true; the input reads as it did. -/
def fnExactDealUptoRow : OpenClaim := { program := "ytogdhclomgafdaa", sum := "1458a01e0c3b8c06fe8f2cd30718339af84368d5b50165f4c872ab00c06f0a99", func := "loop.example/g00710/laws.FnExactDeal", spec := "fnExactDeal", plainKeys := false, apart := false, narrowed := true }
def FnExactDealUptoSaid : Prop := fnExactDealUptoRow.holds Try.pinned (OpenSpec.upto fnExactDealSpec)

/-- 'laws.FnExactUnpackJobs', WHERE WHAT IT READS IS OF BULK AT MOST 1048576: true; the input reads as it did. -/
def fnExactUnpackJobsUptoRow : OpenClaim := { program := "ytogdhclomgafdaa", sum := "1458a01e0c3b8c06fe8f2cd30718339af84368d5b50165f4c872ab00c06f0a99", func := "loop.example/g00710/laws.FnExactUnpackJobs", spec := "fnExactUnpackJobs", plainKeys := false, apart := false, narrowed := true }
def FnExactUnpackJobsUptoSaid : Prop := fnExactUnpackJobsUptoRow.holds Try.pinned (OpenSpec.upto fnExactUnpackJobsSpec)

/-- 'laws.FnExactFeedAll', WHERE WHAT IT READS IS OF BULK AT MOST 1048576: true; the input reads as it did. -/
def fnExactFeedAllUptoRow : OpenClaim := { program := "ytogdhclomgafdaa", sum := "1458a01e0c3b8c06fe8f2cd30718339af84368d5b50165f4c872ab00c06f0a99", func := "loop.example/g00710/laws.FnExactFeedAll", spec := "fnExactFeedAll", plainKeys := false, apart := false, narrowed := true }
def FnExactFeedAllUptoSaid : Prop := fnExactFeedAllUptoRow.holds Try.pinned (OpenSpec.upto fnExactFeedAllSpec)

/-- 'laws.FnJobBytes', WHERE WHAT IT READS IS OF BULK AT MOST 1048576: true; the input reads as it did. -/
def fnJobBytesUptoRow : OpenClaim := { program := "ytogdhclomgafdaa", sum := "1458a01e0c3b8c06fe8f2cd30718339af84368d5b50165f4c872ab00c06f0a99", func := "loop.example/g00710/laws.FnJobBytes", spec := "fnJobBytes", plainKeys := false, apart := false, narrowed := true }
def FnJobBytesUptoSaid : Prop := fnJobBytesUptoRow.holds Try.pinned (OpenSpec.upto fnJobBytesSpec)

/-- 'laws.FnWireJobs', WHERE WHAT IT READS IS OF BULK AT MOST 1048576: true; the input reads as it did. -/
def fnWireJobsUptoRow : OpenClaim := { program := "ytogdhclomgafdaa", sum := "1458a01e0c3b8c06fe8f2cd30718339af84368d5b50165f4c872ab00c06f0a99", func := "loop.example/g00710/laws.FnWireJobs", spec := "fnWireJobs", plainKeys := false, apart := false, narrowed := true }
def FnWireJobsUptoSaid : Prop := fnWireJobsUptoRow.holds Try.pinned (OpenSpec.upto fnWireJobsSpec)

end Rows
end Go.Proofs.Ytogdhclomgafdaa

-- Written by a program of this session (the print of the kit with contracts of this session's own added)
import Derived.Test.YtjgggiophbnghaaProg
import Derived.Below
import Derived.Deep.Draws
import Derived.Deep.AppendLies
import Derived.Maps.AppendAt
import Derived.OwnWalk
import Derived.Laws.BytesArg
import Derived.Laws.MakeOwn
import Derived.Laws.OwnMore
import Derived.Deep.OwnRows
import Derived.Tactics
import Derived.Lib.ConvBytes
import Derived.Laws.Slices
import Derived.WalkKit
import Derived.KernelRfl
import Derived.RowKit3
import Derived.Deep.LoopGhost
import Derived.Deep.QuietTactic
import Derived.BigQuiet
import Derived.WideLaws
import Derived.Deep.DeepCutAuto
import Derived.Deep.CutBlock
import Derived.Deep.RegionHeld3
import Derived.Laws.Rows
import Derived.Lib.AppendStr
import Derived.ArgAppend
import Derived.Laws.IdiomCopy
import Derived.OrdersHeld
import Derived.Laws.BitsLemmas
import Derived.RowKit
import Derived.Test.YtjgggiophbnghaaWWords
import Derived.Test.YtjgggiophbnghaaWLast
import Derived.Test.YtjgggiophbnghaaWTab
import Derived.Test.YtjgggiophbnghaaWFour
import Derived.Test.YtjgggiophbnghaaWQPut
import Derived.Test.YtjgggiophbnghaaWApart
import Derived.Test.YtjgggiophbnghaaWArr
import Derived.Test.YtjgggiophbnghaaWZeros
import Derived.Test.YtjgggiophbnghaaWFoot
import Derived.Test.YtjgggiophbnghaaWKept
import Derived.Test.YtjgggiophbnghaaWShare
import Derived.Test.YtjgggiophbnghaaWN
import Derived.Test.YtjgggiophbnghaaWFootNe
import Derived.Test.YtjgggiophbnghaaWAt
import Derived.Test.YtjgggiophbnghaaWEqStruct
import Derived.Test.YtjgggiophbnghaaWRepsOne
import Derived.Test.YtjgggiophbnghaaWInv
import Derived.Test.YtjgggiophbnghaaWInvWords
import Derived.Test.YtjgggiophbnghaaWGuard
import Derived.Test.YtjgggiophbnghaaWNEv
import Derived.Test.YtjgggiophbnghaaWMore
namespace Go.Proofs.Ytjgggiophbnghaa.PFnExactWhenReady
open Go.RowKit Go.Proofs.YtjgggiophbnghaaW.PrintWords Go.Proofs.YtjgggiophbnghaaW.PrintLast Go.Proofs.YtjgggiophbnghaaW.PrintMore
attribute [local go_sem] max2_int min2_int max_two min_two max_three min_three max_four min_four   -- for this text's walks alone
set_option linter.unusedVariables false
set_option linter.unusedSimpArgs false



def errW : Option Int → Value
  | none => .nilIface
  | some c => .iface 0 (.int .i64 c)
theorem errW_none : errW none = .nilIface := rfl
theorem errW_some (c : Int) : errW (some c) = .iface 0 (.int .i64 c) := rfl

-- the values' own types

end Go.Proofs.Ytjgggiophbnghaa.PFnExactWhenReady

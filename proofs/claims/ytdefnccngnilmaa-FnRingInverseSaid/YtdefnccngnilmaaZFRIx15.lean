-- Written by a program of this session (the print of the kit with contracts of this session's own added)
import Derived.Test.YtdefnccngnilmaaZFRIx1
import Derived.Test.YtdefnccngnilmaaZFRIx2
import Derived.Test.YtdefnccngnilmaaZFRIx4
import Derived.Test.YtdefnccngnilmaaZFRIx3
import Derived.Test.YtdefnccngnilmaaZFRIx5
import Derived.Test.YtdefnccngnilmaaZFRIx6
import Derived.Test.YtdefnccngnilmaaZFRIx7
import Derived.Test.YtdefnccngnilmaaZFRIx8
import Derived.Test.YtdefnccngnilmaaZFRIx9
import Derived.Test.YtdefnccngnilmaaZFRIx10
import Derived.Test.YtdefnccngnilmaaZFRIx11
import Derived.Test.YtdefnccngnilmaaZFRIx12
import Derived.Test.YtdefnccngnilmaaZFRIx13
namespace Go.Proofs.Ytdefnccngnilmaa.PFnRingInverse
open Go.RowKit Go.Proofs.YtdefnccngnilmaaW.PrintWords Go.Proofs.YtdefnccngnilmaaW.PrintLast Go.Proofs.YtdefnccngnilmaaW.PrintMore
attribute [local go_sem] max2_int min2_int max_two min_two max_three min_three max_four min_four   -- for this text's walks alone
set_option linter.unusedVariables false
set_option linter.unusedSimpArgs false

end Go.Proofs.Ytdefnccngnilmaa.PFnRingInverse

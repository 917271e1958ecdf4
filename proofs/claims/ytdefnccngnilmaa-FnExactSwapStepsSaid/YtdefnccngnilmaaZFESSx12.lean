-- Written by a program of this session (the print of the kit with contracts of this session's own added)
import Derived.Test.YtdefnccngnilmaaZFESSx1
import Derived.Test.YtdefnccngnilmaaZFESSx2
import Derived.Test.YtdefnccngnilmaaZFESSx3
import Derived.Test.YtdefnccngnilmaaZFESSx4
import Derived.Test.YtdefnccngnilmaaZFESSx5
import Derived.Test.YtdefnccngnilmaaZFESSx6
import Derived.Test.YtdefnccngnilmaaZFESSx7
import Derived.Test.YtdefnccngnilmaaZFESSx8
import Derived.Test.YtdefnccngnilmaaZFESSx9
import Derived.Test.YtdefnccngnilmaaZFESSx10
import Derived.Test.YtdefnccngnilmaaZFESSx11
namespace Go.Proofs.Ytdefnccngnilmaa.PFnExactSwapSteps
open Go.RowKit Go.Proofs.YtdefnccngnilmaaW.PrintWords Go.Proofs.YtdefnccngnilmaaW.PrintLast Go.Proofs.YtdefnccngnilmaaW.PrintMore
attribute [local go_sem] max2_int min2_int max_two min_two max_three min_three max_four min_four   -- for this text's walks alone
set_option linter.unusedVariables false
set_option linter.unusedSimpArgs false

end Go.Proofs.Ytdefnccngnilmaa.PFnExactSwapSteps

-- Written by a program of this session (the print of the kit with contracts of this session's own added)
import Derived.Test.YtgoebfelalapaaaPFnExactJobCostx0
import Derived.Test.YtgoebfelalapaaaPFnExactJobCostx1
import Derived.Test.YtgoebfelalapaaaPFnExactJobCostx2
import Derived.Test.YtgoebfelalapaaaPFnExactJobCostx3
import Derived.Test.YtgoebfelalapaaaPFnExactJobCostx4
import Derived.Test.YtgoebfelalapaaaPFnExactJobCostx5
import Derived.Test.YtgoebfelalapaaaPFnExactJobCostx6
namespace Go.Proofs.Ytgoebfelalapaaa.PFnExactJobCost
open Go.RowKit Go.Proofs.YtgoebfelalapaaaW.PrintWords Go.Proofs.YtgoebfelalapaaaW.PrintLast Go.Proofs.YtgoebfelalapaaaW.PrintMore
attribute [local go_sem] max2_int min2_int max_two min_two max_three min_three max_four min_four   -- for this text's walks alone
set_option linter.unusedVariables false
set_option linter.unusedSimpArgs false

end Go.Proofs.Ytgoebfelalapaaa.PFnExactJobCost

-- Written by a program of this session (the print of the kit with contracts of this session's own added)
import Derived.Test.YtcjgiafjpbfglaaZFESPx1
import Derived.Test.YtcjgiafjpbfglaaZFESPx2
import Derived.Test.YtcjgiafjpbfglaaZFESPx3
import Derived.Test.YtcjgiafjpbfglaaZFESPx4
import Derived.Test.YtcjgiafjpbfglaaZFESPx5
import Derived.Test.YtcjgiafjpbfglaaZFESPx6
import Derived.Test.YtcjgiafjpbfglaaZFESPx7
import Derived.Test.YtcjgiafjpbfglaaZFESPx8
namespace Go.Proofs.Ytcjgiafjpbfglaa.PFnExactSplitPlan
open Go.RowKit Go.Proofs.YtcjgiafjpbfglaaW.PrintWords Go.Proofs.YtcjgiafjpbfglaaW.PrintLast Go.Proofs.YtcjgiafjpbfglaaW.PrintMore
attribute [local go_sem] max2_int min2_int max_two min_two max_three min_three max_four min_four   -- for this text's walks alone
set_option linter.unusedVariables false
set_option linter.unusedSimpArgs false

end Go.Proofs.Ytcjgiafjpbfglaa.PFnExactSplitPlan

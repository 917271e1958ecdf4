-- Written by a program of this session (the print of the kit with contracts of this session's own added)
import Derived.Test.YtbojabmpcfclhaaZFPAx1
import Derived.Test.YtbojabmpcfclhaaZFPAx3
import Derived.Test.YtbojabmpcfclhaaZFPAx4
import Derived.Test.YtbojabmpcfclhaaZFPAx5
import Derived.Test.YtbojabmpcfclhaaZFPAx6
import Derived.Test.YtbojabmpcfclhaaZFPAx7
import Derived.Test.YtbojabmpcfclhaaZFPAx8
import Derived.Test.YtbojabmpcfclhaaZFPAx9
import Derived.Test.YtbojabmpcfclhaaZFPAx10
import Derived.Test.YtbojabmpcfclhaaZFPAx11
import Derived.Test.YtbojabmpcfclhaaZFPAx12
import Derived.Test.YtbojabmpcfclhaaZFPAx13
import Derived.Test.YtbojabmpcfclhaaZFPAx14
import Derived.Test.YtbojabmpcfclhaaZFPAx15
namespace Go.Proofs.Ytbojabmpcfclhaa.PFnPlanAny
open Go.RowKit Go.Proofs.YtbojabmpcfclhaaW.PrintWords Go.Proofs.YtbojabmpcfclhaaW.PrintLast Go.Proofs.YtbojabmpcfclhaaW.PrintMore
attribute [local go_sem] max2_int min2_int max_two min_two max_three min_three max_four min_four   -- for this text's walks alone
set_option linter.unusedVariables false
set_option linter.unusedSimpArgs false

end Go.Proofs.Ytbojabmpcfclhaa.PFnPlanAny

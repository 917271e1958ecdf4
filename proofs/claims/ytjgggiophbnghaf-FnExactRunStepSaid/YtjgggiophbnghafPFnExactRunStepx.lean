-- Written by a program of this session (the print of the kit with contracts of this session's own added)
import Derived.Test.YtjgggiophbnghafPFnExactRunStepx0
import Derived.Test.YtjgggiophbnghafPFnExactRunStepx1
import Derived.Test.YtjgggiophbnghafPFnExactRunStepx2
import Derived.Test.YtjgggiophbnghafPFnExactRunStepx3
import Derived.Test.YtjgggiophbnghafPFnExactRunStepx4
import Derived.Test.YtjgggiophbnghafPFnExactRunStepx5
import Derived.Test.YtjgggiophbnghafPFnExactRunStepx6
import Derived.Test.YtjgggiophbnghafPFnExactRunStepx7
import Derived.Test.YtjgggiophbnghafPFnExactRunStepx8
namespace Go.Proofs.Ytjgggiophbnghaf.PFnExactRunStep
open Go.RowKit Go.Proofs.YtjgggiophbnghafW.PrintWords Go.Proofs.YtjgggiophbnghafW.PrintLast Go.Proofs.YtjgggiophbnghafW.PrintMore
attribute [local go_sem] max2_int min2_int max_two min_two max_three min_three max_four min_four   -- for this text's walks alone
set_option linter.unusedVariables false
set_option linter.unusedSimpArgs false

end Go.Proofs.Ytjgggiophbnghaf.PFnExactRunStep

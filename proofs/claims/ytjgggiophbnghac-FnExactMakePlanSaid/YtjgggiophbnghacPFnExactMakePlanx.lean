-- Written by a program of this session (the print of the kit with contracts of this session's own added)
import Derived.Test.YtjgggiophbnghacPFnExactMakePlanx0
import Derived.Test.YtjgggiophbnghacPFnExactMakePlanx1
import Derived.Test.YtjgggiophbnghacPFnExactMakePlanx2
import Derived.Test.YtjgggiophbnghacPFnExactMakePlanx3
import Derived.Test.YtjgggiophbnghacPFnExactMakePlanx4
namespace Go.Proofs.Ytjgggiophbnghac.PFnExactMakePlan
open Go.RowKit Go.Proofs.YtjgggiophbnghacW.PrintWords Go.Proofs.YtjgggiophbnghacW.PrintLast Go.Proofs.YtjgggiophbnghacW.PrintMore
attribute [local go_sem] max2_int min2_int max_two min_two max_three min_three max_four min_four   -- for this text's walks alone
set_option linter.unusedVariables false
set_option linter.unusedSimpArgs false

end Go.Proofs.Ytjgggiophbnghac.PFnExactMakePlan

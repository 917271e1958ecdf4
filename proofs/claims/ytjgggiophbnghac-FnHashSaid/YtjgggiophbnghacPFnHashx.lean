-- Written by a program of this session (the print of the kit with contracts of this session's own added)
import Derived.Test.YtjgggiophbnghacPFnHashx0
import Derived.Test.YtjgggiophbnghacPFnHashx1
import Derived.Test.YtjgggiophbnghacPFnHashx2
import Derived.Test.YtjgggiophbnghacPFnHashx3
namespace Go.Proofs.Ytjgggiophbnghac.PFnHash
open Go.RowKit Go.Proofs.YtjgggiophbnghacW.PrintWords Go.Proofs.YtjgggiophbnghacW.PrintLast Go.Proofs.YtjgggiophbnghacW.PrintMore
attribute [local go_sem] max2_int min2_int max_two min_two max_three min_three max_four min_four   -- for this text's walks alone
set_option linter.unusedVariables false
set_option linter.unusedSimpArgs false

end Go.Proofs.Ytjgggiophbnghac.PFnHash

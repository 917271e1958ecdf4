-- Written by a program of this session (the print of the kit with contracts of this session's own added)
import Derived.Test.YtjgggiophbnghadPFnExactStreamOkx0
import Derived.Test.YtjgggiophbnghadPFnExactStreamOkx1
import Derived.Test.YtjgggiophbnghadPFnExactStreamOkx2
import Derived.Test.YtjgggiophbnghadPFnExactStreamOkx3
import Derived.Test.YtjgggiophbnghadPFnExactStreamOkx4
import Derived.Test.YtjgggiophbnghadPFnExactStreamOkx5
namespace Go.Proofs.Ytjgggiophbnghad.PFnExactStreamOk
open Go.RowKit Go.Proofs.YtjgggiophbnghadW.PrintWords Go.Proofs.YtjgggiophbnghadW.PrintLast Go.Proofs.YtjgggiophbnghadW.PrintMore
attribute [local go_sem] max2_int min2_int max_two min_two max_three min_three max_four min_four   -- for this text's walks alone
set_option linter.unusedVariables false
set_option linter.unusedSimpArgs false

end Go.Proofs.Ytjgggiophbnghad.PFnExactStreamOk

-- Written by a program of this session (the print of the kit with contracts of this session's own added)
import Derived.Test.YtjgggiophbnghadPFnExactDecodeFramex0
import Derived.Test.YtjgggiophbnghadPFnExactDecodeFramex1
import Derived.Test.YtjgggiophbnghadPFnExactDecodeFramex2
import Derived.Test.YtjgggiophbnghadPFnExactDecodeFramex3
import Derived.Test.YtjgggiophbnghadPFnExactDecodeFramex4
import Derived.Test.YtjgggiophbnghadPFnExactDecodeFramex5
import Derived.Test.YtjgggiophbnghadPFnExactDecodeFramex6
namespace Go.Proofs.Ytjgggiophbnghad.PFnExactDecodeFrame
open Go.RowKit Go.Proofs.YtjgggiophbnghadW.PrintWords Go.Proofs.YtjgggiophbnghadW.PrintLast Go.Proofs.YtjgggiophbnghadW.PrintMore
attribute [local go_sem] max2_int min2_int max_two min_two max_three min_three max_four min_four   -- for this text's walks alone
set_option linter.unusedVariables false
set_option linter.unusedSimpArgs false

end Go.Proofs.Ytjgggiophbnghad.PFnExactDecodeFrame

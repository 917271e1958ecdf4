-- Written by a program of this session (the print of the kit with contracts of this session's own added)
import Derived.Test.YtgoebfelalapaaaPFnExactEncodeFramex0
import Derived.Test.YtgoebfelalapaaaPFnExactEncodeFramex1
import Derived.Test.YtgoebfelalapaaaPFnExactEncodeFramex2
import Derived.Test.YtgoebfelalapaaaPFnExactEncodeFramex3
import Derived.Test.YtgoebfelalapaaaPFnExactEncodeFramex4
namespace Go.Proofs.Ytgoebfelalapaaa.PFnExactEncodeFrame
open Go.RowKit Go.Proofs.YtgoebfelalapaaaW.PrintWords Go.Proofs.YtgoebfelalapaaaW.PrintLast Go.Proofs.YtgoebfelalapaaaW.PrintMore
attribute [local go_sem] max2_int min2_int max_two min_two max_three min_three max_four min_four   -- for this text's walks alone
set_option linter.unusedVariables false
set_option linter.unusedSimpArgs false

end Go.Proofs.Ytgoebfelalapaaa.PFnExactEncodeFrame

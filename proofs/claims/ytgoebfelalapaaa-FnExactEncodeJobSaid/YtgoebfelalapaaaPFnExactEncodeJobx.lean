-- Written by a program of this session (the print of the kit with contracts of this session's own added)
import Derived.Test.YtgoebfelalapaaaPFnExactEncodeJobx0
import Derived.Test.YtgoebfelalapaaaPFnExactEncodeJobx1
import Derived.Test.YtgoebfelalapaaaPFnExactEncodeJobx2
import Derived.Test.YtgoebfelalapaaaPFnExactEncodeJobx3
import Derived.Test.YtgoebfelalapaaaPFnExactEncodeJobx4
import Derived.Test.YtgoebfelalapaaaPFnExactEncodeJobx5
import Derived.Test.YtgoebfelalapaaaPFnExactEncodeJobx6
import Derived.Test.YtgoebfelalapaaaPFnExactEncodeJobx7
namespace Go.Proofs.Ytgoebfelalapaaa.PFnExactEncodeJob
open Go.RowKit Go.Proofs.YtgoebfelalapaaaW.PrintWords Go.Proofs.YtgoebfelalapaaaW.PrintLast Go.Proofs.YtgoebfelalapaaaW.PrintMore
attribute [local go_sem] max2_int min2_int max_two min_two max_three min_three max_four min_four   -- for this text's walks alone
set_option linter.unusedVariables false
set_option linter.unusedSimpArgs false

end Go.Proofs.Ytgoebfelalapaaa.PFnExactEncodeJob

-- Written by a program of this session (the print of the kit with contracts of this session's own added)
import Derived.Test.YtpomhmcehbefaaaZFOPx1
import Derived.Test.YtpomhmcehbefaaaZFOPx2
import Derived.Test.YtpomhmcehbefaaaZFOPx3
import Derived.Test.YtpomhmcehbefaaaZFOPx4
import Derived.Test.YtpomhmcehbefaaaZFOPx5
import Derived.Test.YtpomhmcehbefaaaZFOPx6
import Derived.Test.YtpomhmcehbefaaaZFOPx7
import Derived.Test.YtpomhmcehbefaaaZFOPx8
import Derived.Test.YtpomhmcehbefaaaZFOPx9
import Derived.Test.YtpomhmcehbefaaaZFOPx10
import Derived.Test.YtpomhmcehbefaaaZFOPx11
namespace Go.Proofs.Ytpomhmcehbefaaa.PFnOddProduct
open Go.RowKit Go.Proofs.YtpomhmcehbefaaaW.PrintWords Go.Proofs.YtpomhmcehbefaaaW.PrintLast Go.Proofs.YtpomhmcehbefaaaW.PrintMore
attribute [local go_sem] max2_int min2_int max_two min_two max_three min_three max_four min_four   -- for this text's walks alone
set_option linter.unusedVariables false
set_option linter.unusedSimpArgs false

end Go.Proofs.Ytpomhmcehbefaaa.PFnOddProduct

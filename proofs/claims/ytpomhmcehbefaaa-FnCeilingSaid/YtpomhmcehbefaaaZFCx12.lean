-- Written by a program of this session (the print of the kit with contracts of this session's own added)
import Derived.Test.YtpomhmcehbefaaaZFCx0
import Derived.Test.YtpomhmcehbefaaaZFCx1
import Derived.Test.YtpomhmcehbefaaaZFCx5
import Derived.Test.YtpomhmcehbefaaaZFCx6
import Derived.Test.YtpomhmcehbefaaaZFCx7
import Derived.Test.YtpomhmcehbefaaaZFCx8
import Derived.Test.YtpomhmcehbefaaaZFCx9
import Derived.Test.YtpomhmcehbefaaaZFCx10
namespace Go.Proofs.Ytpomhmcehbefaaa.PFnCeiling
open Go.RowKit Go.Proofs.YtpomhmcehbefaaaW.PrintWords Go.Proofs.YtpomhmcehbefaaaW.PrintLast Go.Proofs.YtpomhmcehbefaaaW.PrintMore
attribute [local go_sem] max2_int min2_int max_two min_two max_three min_three max_four min_four   -- for this text's walks alone
set_option linter.unusedVariables false
set_option linter.unusedSimpArgs false

end Go.Proofs.Ytpomhmcehbefaaa.PFnCeiling

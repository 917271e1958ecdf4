-- Written by a program of this session (the print of the kit with contracts of this session's own added)
import Derived.Test.YtpomhmcehbefaaaZFFTx0
import Derived.Test.YtpomhmcehbefaaaZFFTx1
import Derived.Test.YtpomhmcehbefaaaZFFTx2
import Derived.Test.YtpomhmcehbefaaaZFFTx6
import Derived.Test.YtpomhmcehbefaaaZFFTx7
import Derived.Test.YtpomhmcehbefaaaZFFTx8
import Derived.Test.YtpomhmcehbefaaaZFFTx9
import Derived.Test.YtpomhmcehbefaaaZFFTx10
namespace Go.Proofs.Ytpomhmcehbefaaa.PFnFillTwice
open Go.RowKit Go.Proofs.YtpomhmcehbefaaaW.PrintWords Go.Proofs.YtpomhmcehbefaaaW.PrintLast Go.Proofs.YtpomhmcehbefaaaW.PrintMore
attribute [local go_sem] max2_int min2_int max_two min_two max_three min_three max_four min_four   -- for this text's walks alone
set_option linter.unusedVariables false
set_option linter.unusedSimpArgs false

end Go.Proofs.Ytpomhmcehbefaaa.PFnFillTwice

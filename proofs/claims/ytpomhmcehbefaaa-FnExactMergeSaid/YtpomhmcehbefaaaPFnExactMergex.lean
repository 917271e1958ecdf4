-- Written by a program of this session (the print of the kit with contracts of this session's own added)
import Derived.Test.YtpomhmcehbefaaaPFnExactMergex0
import Derived.Test.YtpomhmcehbefaaaPFnExactMergex1
import Derived.Test.YtpomhmcehbefaaaPFnExactMergex2
import Derived.Test.YtpomhmcehbefaaaPFnExactMergex3
namespace Go.Proofs.Ytpomhmcehbefaaa.PFnExactMerge
open Go.RowKit Go.Proofs.YtpomhmcehbefaaaW.PrintWords Go.Proofs.YtpomhmcehbefaaaW.PrintLast Go.Proofs.YtpomhmcehbefaaaW.PrintMore
attribute [local go_sem] max2_int min2_int max_two min_two max_three min_three max_four min_four   -- for this text's walks alone
set_option linter.unusedVariables false
set_option linter.unusedSimpArgs false

end Go.Proofs.Ytpomhmcehbefaaa.PFnExactMerge

-- Written by a program of this session (the print of the kit with contracts of this session's own added)
import Derived.Test.YtpomhmcehbefaaaZFERPx1
import Derived.Test.YtpomhmcehbefaaaZFERPx2
import Derived.Test.YtpomhmcehbefaaaZFERPx3
import Derived.Test.YtpomhmcehbefaaaZFERPx4
import Derived.Test.YtpomhmcehbefaaaZFERPx5
import Derived.Test.YtpomhmcehbefaaaZFERPx6
import Derived.Test.YtpomhmcehbefaaaZFERPx7
import Derived.Test.YtpomhmcehbefaaaZFERPx8
import Derived.Test.YtpomhmcehbefaaaZFERPx9
import Derived.Test.YtpomhmcehbefaaaZFERPx10
import Derived.Test.YtpomhmcehbefaaaZFERPx11
import Derived.Test.YtpomhmcehbefaaaZFERPx12
namespace Go.Proofs.Ytpomhmcehbefaaa.PFnExactRunPlan
open Go.RowKit Go.Proofs.YtpomhmcehbefaaaW.PrintWords Go.Proofs.YtpomhmcehbefaaaW.PrintLast Go.Proofs.YtpomhmcehbefaaaW.PrintMore
attribute [local go_sem] max2_int min2_int max_two min_two max_three min_three max_four min_four   -- for this text's walks alone
set_option linter.unusedVariables false
set_option linter.unusedSimpArgs false

end Go.Proofs.Ytpomhmcehbefaaa.PFnExactRunPlan

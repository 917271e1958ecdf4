-- Written by a program of this session (the print of the kit with contracts of this session's own added)
import Derived.Test.YtogdhclomgafdaaZFEDx1
import Derived.Test.YtogdhclomgafdaaZFEDx2
import Derived.Test.YtogdhclomgafdaaZFEDx3
import Derived.Test.YtogdhclomgafdaaZFEDx4
import Derived.Test.YtogdhclomgafdaaZFEDx5
import Derived.Test.YtogdhclomgafdaaZFEDx6
import Derived.Test.YtogdhclomgafdaaZFEDx7
import Derived.Test.YtogdhclomgafdaaZFEDx8
import Derived.Test.YtogdhclomgafdaaZFEDx9
namespace Go.Proofs.Ytogdhclomgafdaa.PFnExactDeal
open Go.RowKit Go.Proofs.YtogdhclomgafdaaW.PrintWords Go.Proofs.YtogdhclomgafdaaW.PrintLast Go.Proofs.YtogdhclomgafdaaW.PrintMore
attribute [local go_sem] max2_int min2_int max_two min_two max_three min_three max_four min_four   -- for this text's walks alone
set_option linter.unusedVariables false
set_option linter.unusedSimpArgs false

end Go.Proofs.Ytogdhclomgafdaa.PFnExactDeal

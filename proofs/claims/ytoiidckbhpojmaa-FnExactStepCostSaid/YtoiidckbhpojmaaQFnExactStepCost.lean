/- Lemmas on the printed functions of FnExactStepCost: what each comes to. -/
import Derived.Test.YtoiidckbhpojmaaPFnExactStepCostx
import Derived.Test.YtoiidckbhpojmaaMath
namespace Go.Proofs.Ytoiidckbhpojmaa.QFnExactStepCost
open Go.RowKit Go.Proofs.Ytoiidckbhpojmaa.PFnExactStepCost Go.Proofs.YtoiidckbhpojmaaW.PrintWords Go.Proofs.YtoiidckbhpojmaaW.PrintLast Go.Proofs.Ytoiidckbhpojmaa.Math
set_option linter.unusedVariables false
set_option linter.unusedSimpArgs false


end Go.Proofs.Ytoiidckbhpojmaa.QFnExactStepCost

-- Written for this claim by a program of this session (wip/tools/xprint.py over the kit's printer).
import Derived.Test.YtinnmloliknilaaPFnExactTurnPolygonx0
import Derived.Test.YtinnmloliknilaaPFnExactTurnPolygonx1
import Derived.Test.YtinnmloliknilaaPFnExactTurnPolygonx2
import Derived.Test.YtinnmloliknilaaPFnExactTurnPolygonx3
import Derived.Test.YtinnmloliknilaaPFnExactTurnPolygonx4
import Derived.Test.YtinnmloliknilaaPFnExactTurnPolygonx5
import Derived.Test.YtinnmloliknilaaPFnExactTurnPolygonx6
import Derived.Test.YtinnmloliknilaaPFnExactTurnPolygonx7
import Derived.Test.YtinnmloliknilaaPFnExactTurnPolygonx8
import Derived.Test.YtinnmloliknilaaPFnExactTurnPolygonx9
import Derived.Test.YtinnmloliknilaaPFnExactTurnPolygonx10
import Derived.Test.YtinnmloliknilaaPFnExactTurnPolygonx11
import Derived.Test.YtinnmloliknilaaPFnExactTurnPolygonx12
namespace Go.Proofs.Ytinnmloliknilaa.PFnExactTurnPolygon
open Go.RowKit Go.Proofs.YtinnmloliknilaaW.PrintWords Go.Proofs.YtinnmloliknilaaW.PrintLast Go.Proofs.YtinnmloliknilaaW.PrintMore
attribute [local go_sem] max2_int min2_int max_two min_two max_three min_three max_four min_four   -- for this text's walks alone
set_option linter.unusedVariables false
set_option linter.unusedSimpArgs false

end Go.Proofs.Ytinnmloliknilaa.PFnExactTurnPolygon

-- Written for this claim by a program of this session (wip/tools/xprint.py over the kit's printer).
import Derived.Test.YtinnmloliknilaaPFnExactMirrorPolygonx0
import Derived.Test.YtinnmloliknilaaPFnExactMirrorPolygonx1
import Derived.Test.YtinnmloliknilaaPFnExactMirrorPolygonx2
import Derived.Test.YtinnmloliknilaaPFnExactMirrorPolygonx3
import Derived.Test.YtinnmloliknilaaPFnExactMirrorPolygonx4
import Derived.Test.YtinnmloliknilaaPFnExactMirrorPolygonx5
import Derived.Test.YtinnmloliknilaaPFnExactMirrorPolygonx6
import Derived.Test.YtinnmloliknilaaPFnExactMirrorPolygonx7
import Derived.Test.YtinnmloliknilaaPFnExactMirrorPolygonx8
import Derived.Test.YtinnmloliknilaaPFnExactMirrorPolygonx9
import Derived.Test.YtinnmloliknilaaPFnExactMirrorPolygonx10
import Derived.Test.YtinnmloliknilaaPFnExactMirrorPolygonx11
import Derived.Test.YtinnmloliknilaaPFnExactMirrorPolygonx12
namespace Go.Proofs.Ytinnmloliknilaa.PFnExactMirrorPolygon
open Go.RowKit Go.Proofs.YtinnmloliknilaaW.PrintWords Go.Proofs.YtinnmloliknilaaW.PrintLast Go.Proofs.YtinnmloliknilaaW.PrintMore
attribute [local go_sem] max2_int min2_int max_two min_two max_three min_three max_four min_four   -- for this text's walks alone
set_option linter.unusedVariables false
set_option linter.unusedSimpArgs false

end Go.Proofs.Ytinnmloliknilaa.PFnExactMirrorPolygon

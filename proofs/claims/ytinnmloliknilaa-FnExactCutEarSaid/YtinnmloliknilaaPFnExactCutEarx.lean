-- Written for this claim by a program of this session (wip/tools/xprint.py over the kit's printer).
import Derived.Test.YtinnmloliknilaaPFnExactCutEarx0
import Derived.Test.YtinnmloliknilaaPFnExactCutEarx1
import Derived.Test.YtinnmloliknilaaPFnExactCutEarx2
import Derived.Test.YtinnmloliknilaaPFnExactCutEarx3
import Derived.Test.YtinnmloliknilaaPFnExactCutEarx4
import Derived.Test.YtinnmloliknilaaPFnExactCutEarx5
import Derived.Test.YtinnmloliknilaaPFnExactCutEarx6
import Derived.Test.YtinnmloliknilaaPFnExactCutEarx7
import Derived.Test.YtinnmloliknilaaPFnExactCutEarx8
import Derived.Test.YtinnmloliknilaaPFnExactCutEarx9
import Derived.Test.YtinnmloliknilaaPFnExactCutEarx10
import Derived.Test.YtinnmloliknilaaPFnExactCutEarx11
import Derived.Test.YtinnmloliknilaaPFnExactCutEarx12
import Derived.Test.YtinnmloliknilaaPFnExactCutEarx13
import Derived.Test.YtinnmloliknilaaPFnExactCutEarx14
import Derived.Test.YtinnmloliknilaaPFnExactCutEarx15
namespace Go.Proofs.Ytinnmloliknilaa.PFnExactCutEar
open Go.RowKit Go.Proofs.YtinnmloliknilaaW.PrintWords Go.Proofs.YtinnmloliknilaaW.PrintLast Go.Proofs.YtinnmloliknilaaW.PrintMore
attribute [local go_sem] max2_int min2_int max_two min_two max_three min_three max_four min_four   -- for this text's walks alone
set_option linter.unusedVariables false
set_option linter.unusedSimpArgs false

end Go.Proofs.Ytinnmloliknilaa.PFnExactCutEar

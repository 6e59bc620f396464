-- Written for this claim by a program of this session (wip/tools/xprint.py over the kit's printer).
import Derived.Test.YtinnmloliknilaaPFnExactGlideOfx0
import Derived.Test.YtinnmloliknilaaPFnExactGlideOfx1
import Derived.Test.YtinnmloliknilaaPFnExactGlideOfx2
import Derived.Test.YtinnmloliknilaaPFnExactGlideOfx3
import Derived.Test.YtinnmloliknilaaPFnExactGlideOfx4
import Derived.Test.YtinnmloliknilaaPFnExactGlideOfx5
import Derived.Test.YtinnmloliknilaaPFnExactGlideOfx6
import Derived.Test.YtinnmloliknilaaPFnExactGlideOfx7
import Derived.Test.YtinnmloliknilaaPFnExactGlideOfx8
import Derived.Test.YtinnmloliknilaaPFnExactGlideOfx9
import Derived.Test.YtinnmloliknilaaPFnExactGlideOfx10
import Derived.Test.YtinnmloliknilaaPFnExactGlideOfx11
import Derived.Test.YtinnmloliknilaaPFnExactGlideOfx12
import Derived.Test.YtinnmloliknilaaPFnExactGlideOfx13
import Derived.Test.YtinnmloliknilaaPFnExactGlideOfx14
import Derived.Test.YtinnmloliknilaaPFnExactGlideOfx15
namespace Go.Proofs.Ytinnmloliknilaa.PFnExactGlideOf
open Go.RowKit Go.Proofs.YtinnmloliknilaaW.PrintWords Go.Proofs.YtinnmloliknilaaW.PrintLast Go.Proofs.YtinnmloliknilaaW.PrintMore
attribute [local go_sem] max2_int min2_int max_two min_two max_three min_three max_four min_four   -- for this text's walks alone
set_option linter.unusedVariables false
set_option linter.unusedSimpArgs false

end Go.Proofs.Ytinnmloliknilaa.PFnExactGlideOf

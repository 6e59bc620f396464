-- Written for this claim by a program of this session (wip/tools/xprint.py over the kit's printer).
import Derived.Test.YtinnmloliknilabPFnExactGlueEarx0
import Derived.Test.YtinnmloliknilabPFnExactGlueEarx1
import Derived.Test.YtinnmloliknilabPFnExactGlueEarx2
import Derived.Test.YtinnmloliknilabPFnExactGlueEarx3
import Derived.Test.YtinnmloliknilabPFnExactGlueEarx4
import Derived.Test.YtinnmloliknilabPFnExactGlueEarx5
import Derived.Test.YtinnmloliknilabPFnExactGlueEarx6
import Derived.Test.YtinnmloliknilabPFnExactGlueEarx7
import Derived.Test.YtinnmloliknilabPFnExactGlueEarx8
import Derived.Test.YtinnmloliknilabPFnExactGlueEarx9
import Derived.Test.YtinnmloliknilabPFnExactGlueEarx10
import Derived.Test.YtinnmloliknilabPFnExactGlueEarx11
import Derived.Test.YtinnmloliknilabPFnExactGlueEarx12
import Derived.Test.YtinnmloliknilabPFnExactGlueEarx13
import Derived.Test.YtinnmloliknilabPFnExactGlueEarx14
namespace Go.Proofs.Ytinnmloliknilab.PFnExactGlueEar
open Go.RowKit Go.Proofs.YtinnmloliknilabW.PrintWords Go.Proofs.YtinnmloliknilabW.PrintLast Go.Proofs.YtinnmloliknilabW.PrintMore
attribute [local go_sem] max2_int min2_int max_two min_two max_three min_three max_four min_four   -- for this text's walks alone
set_option linter.unusedVariables false
set_option linter.unusedSimpArgs false

end Go.Proofs.Ytinnmloliknilab.PFnExactGlueEar

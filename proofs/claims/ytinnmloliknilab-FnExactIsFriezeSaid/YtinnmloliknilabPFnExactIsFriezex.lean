-- Written for this claim by a program of this session (wip/tools/xprint.py over the kit's printer).
import Derived.Test.YtinnmloliknilabPFnExactIsFriezex0
import Derived.Test.YtinnmloliknilabPFnExactIsFriezex1
import Derived.Test.YtinnmloliknilabPFnExactIsFriezex2
import Derived.Test.YtinnmloliknilabPFnExactIsFriezex3
import Derived.Test.YtinnmloliknilabPFnExactIsFriezex4
import Derived.Test.YtinnmloliknilabPFnExactIsFriezex5
import Derived.Test.YtinnmloliknilabPFnExactIsFriezex6
import Derived.Test.YtinnmloliknilabPFnExactIsFriezex7
import Derived.Test.YtinnmloliknilabPFnExactIsFriezex8
import Derived.Test.YtinnmloliknilabPFnExactIsFriezex9
import Derived.Test.YtinnmloliknilabPFnExactIsFriezex10
import Derived.Test.YtinnmloliknilabPFnExactIsFriezex11
import Derived.Test.YtinnmloliknilabPFnExactIsFriezex12
import Derived.Test.YtinnmloliknilabPFnExactIsFriezex13
import Derived.Test.YtinnmloliknilabPFnExactIsFriezex14
import Derived.Test.YtinnmloliknilabPFnExactIsFriezex15
import Derived.Test.YtinnmloliknilabPFnExactIsFriezex16
namespace Go.Proofs.Ytinnmloliknilab.PFnExactIsFrieze
open Go.RowKit Go.Proofs.YtinnmloliknilabW.PrintWords Go.Proofs.YtinnmloliknilabW.PrintLast Go.Proofs.YtinnmloliknilabW.PrintMore
attribute [local go_sem] max2_int min2_int max_two min_two max_three min_three max_four min_four   -- for this text's walks alone
set_option linter.unusedVariables false
set_option linter.unusedSimpArgs false

end Go.Proofs.Ytinnmloliknilab.PFnExactIsFrieze

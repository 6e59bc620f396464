-- Written for this claim by a program of this session (wip/tools/xprint.py over the kit's printer).
import Derived.Test.YtinnmloliknilabPFnExactOnesOfx0
import Derived.Test.YtinnmloliknilabPFnExactOnesOfx1
import Derived.Test.YtinnmloliknilabPFnExactOnesOfx2
import Derived.Test.YtinnmloliknilabPFnExactOnesOfx3
import Derived.Test.YtinnmloliknilabPFnExactOnesOfx4
import Derived.Test.YtinnmloliknilabPFnExactOnesOfx5
import Derived.Test.YtinnmloliknilabPFnExactOnesOfx6
import Derived.Test.YtinnmloliknilabPFnExactOnesOfx7
import Derived.Test.YtinnmloliknilabPFnExactOnesOfx8
import Derived.Test.YtinnmloliknilabPFnExactOnesOfx9
import Derived.Test.YtinnmloliknilabPFnExactOnesOfx10
import Derived.Test.YtinnmloliknilabPFnExactOnesOfx11
import Derived.Test.YtinnmloliknilabPFnExactOnesOfx12
import Derived.Test.YtinnmloliknilabPFnExactOnesOfx13
import Derived.Test.YtinnmloliknilabPFnExactOnesOfx14
import Derived.Test.YtinnmloliknilabPFnExactOnesOfx15
import Derived.Test.YtinnmloliknilabPFnExactOnesOfx16
namespace Go.Proofs.Ytinnmloliknilab.PFnExactOnesOf
open Go.RowKit Go.Proofs.YtinnmloliknilabW.PrintWords Go.Proofs.YtinnmloliknilabW.PrintLast Go.Proofs.YtinnmloliknilabW.PrintMore
attribute [local go_sem] max2_int min2_int max_two min_two max_three min_three max_four min_four   -- for this text's walks alone
set_option linter.unusedVariables false
set_option linter.unusedSimpArgs false

end Go.Proofs.Ytinnmloliknilab.PFnExactOnesOf

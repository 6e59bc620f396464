-- Written for this claim by a program of this session (wip/tools/xprint.py over the kit's printer).
import Derived.Test.YtinnmloliknilabPFnExactFriezeOfx0
import Derived.Test.YtinnmloliknilabPFnExactFriezeOfx1
import Derived.Test.YtinnmloliknilabPFnExactFriezeOfx2
import Derived.Test.YtinnmloliknilabPFnExactFriezeOfx3
import Derived.Test.YtinnmloliknilabPFnExactFriezeOfx4
import Derived.Test.YtinnmloliknilabPFnExactFriezeOfx5
import Derived.Test.YtinnmloliknilabPFnExactFriezeOfx6
import Derived.Test.YtinnmloliknilabPFnExactFriezeOfx7
import Derived.Test.YtinnmloliknilabPFnExactFriezeOfx8
import Derived.Test.YtinnmloliknilabPFnExactFriezeOfx9
import Derived.Test.YtinnmloliknilabPFnExactFriezeOfx10
import Derived.Test.YtinnmloliknilabPFnExactFriezeOfx11
import Derived.Test.YtinnmloliknilabPFnExactFriezeOfx12
import Derived.Test.YtinnmloliknilabPFnExactFriezeOfx13
import Derived.Test.YtinnmloliknilabPFnExactFriezeOfx14
namespace Go.Proofs.Ytinnmloliknilab.PFnExactFriezeOf
open Go.RowKit Go.Proofs.YtinnmloliknilabW.PrintWords Go.Proofs.YtinnmloliknilabW.PrintLast Go.Proofs.YtinnmloliknilabW.PrintMore
attribute [local go_sem] max2_int min2_int max_two min_two max_three min_three max_four min_four   -- for this text's walks alone
set_option linter.unusedVariables false
set_option linter.unusedSimpArgs false

end Go.Proofs.Ytinnmloliknilab.PFnExactFriezeOf

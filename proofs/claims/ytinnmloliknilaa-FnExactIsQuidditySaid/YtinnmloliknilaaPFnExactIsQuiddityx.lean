-- Written for this claim by a program of this session (wip/tools/xprint.py over the kit's printer).
import Derived.Test.YtinnmloliknilaaPFnExactIsQuiddityx0
import Derived.Test.YtinnmloliknilaaPFnExactIsQuiddityx1
import Derived.Test.YtinnmloliknilaaPFnExactIsQuiddityx2
import Derived.Test.YtinnmloliknilaaPFnExactIsQuiddityx3
import Derived.Test.YtinnmloliknilaaPFnExactIsQuiddityx4
import Derived.Test.YtinnmloliknilaaPFnExactIsQuiddityx5
import Derived.Test.YtinnmloliknilaaPFnExactIsQuiddityx6
import Derived.Test.YtinnmloliknilaaPFnExactIsQuiddityx7
import Derived.Test.YtinnmloliknilaaPFnExactIsQuiddityx8
import Derived.Test.YtinnmloliknilaaPFnExactIsQuiddityx9
import Derived.Test.YtinnmloliknilaaPFnExactIsQuiddityx10
import Derived.Test.YtinnmloliknilaaPFnExactIsQuiddityx11
namespace Go.Proofs.Ytinnmloliknilaa.PFnExactIsQuiddity
open Go.RowKit Go.Proofs.YtinnmloliknilaaW.PrintWords Go.Proofs.YtinnmloliknilaaW.PrintLast Go.Proofs.YtinnmloliknilaaW.PrintMore
attribute [local go_sem] max2_int min2_int max_two min_two max_three min_three max_four min_four   -- for this text's walks alone
set_option linter.unusedVariables false
set_option linter.unusedSimpArgs false

end Go.Proofs.Ytinnmloliknilaa.PFnExactIsQuiddity

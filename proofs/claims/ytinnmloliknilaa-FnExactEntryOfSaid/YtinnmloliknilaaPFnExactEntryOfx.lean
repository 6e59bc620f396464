-- Written for this claim by a program of this session (wip/tools/xprint.py over the kit's printer).
import Derived.Test.YtinnmloliknilaaPFnExactEntryOfx0
import Derived.Test.YtinnmloliknilaaPFnExactEntryOfx1
import Derived.Test.YtinnmloliknilaaPFnExactEntryOfx2
import Derived.Test.YtinnmloliknilaaPFnExactEntryOfx3
import Derived.Test.YtinnmloliknilaaPFnExactEntryOfx4
import Derived.Test.YtinnmloliknilaaPFnExactEntryOfx5
import Derived.Test.YtinnmloliknilaaPFnExactEntryOfx6
import Derived.Test.YtinnmloliknilaaPFnExactEntryOfx7
import Derived.Test.YtinnmloliknilaaPFnExactEntryOfx8
import Derived.Test.YtinnmloliknilaaPFnExactEntryOfx9
import Derived.Test.YtinnmloliknilaaPFnExactEntryOfx10
import Derived.Test.YtinnmloliknilaaPFnExactEntryOfx11
import Derived.Test.YtinnmloliknilaaPFnExactEntryOfx12
import Derived.Test.YtinnmloliknilaaPFnExactEntryOfx13
import Derived.Test.YtinnmloliknilaaPFnExactEntryOfx14
import Derived.Test.YtinnmloliknilaaPFnExactEntryOfx15
namespace Go.Proofs.Ytinnmloliknilaa.PFnExactEntryOf
open Go.RowKit Go.Proofs.YtinnmloliknilaaW.PrintWords Go.Proofs.YtinnmloliknilaaW.PrintLast Go.Proofs.YtinnmloliknilaaW.PrintMore
attribute [local go_sem] max2_int min2_int max_two min_two max_three min_three max_four min_four   -- for this text's walks alone
set_option linter.unusedVariables false
set_option linter.unusedSimpArgs false

end Go.Proofs.Ytinnmloliknilaa.PFnExactEntryOf

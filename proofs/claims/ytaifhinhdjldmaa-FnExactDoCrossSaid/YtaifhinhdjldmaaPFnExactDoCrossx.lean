-- Written for this claim by a program of this session (wip/tools/xprint.py over the kit's printer).
import Derived.Test.YtaifhinhdjldmaaPFnExactDoCrossx0
import Derived.Test.YtaifhinhdjldmaaPFnExactDoCrossx1
import Derived.Test.YtaifhinhdjldmaaPFnExactDoCrossx2
namespace Go.Proofs.Ytaifhinhdjldmaa.PFnExactDoCross
open Go.RowKit Go.Proofs.YtaifhinhdjldmaaW.PrintWords Go.Proofs.YtaifhinhdjldmaaW.PrintLast Go.Proofs.YtaifhinhdjldmaaW.PrintMore
attribute [local go_sem] max2_int min2_int max_two min_two max_three min_three max_four min_four   -- for this text's walks alone
set_option linter.unusedVariables false
set_option linter.unusedSimpArgs false

end Go.Proofs.Ytaifhinhdjldmaa.PFnExactDoCross

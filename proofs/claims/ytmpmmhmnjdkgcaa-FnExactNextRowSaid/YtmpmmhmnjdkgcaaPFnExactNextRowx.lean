-- Written for this claim by a program of this session (wip/tools/xprint.py over the kit's printer).
import Derived.Test.YtmpmmhmnjdkgcaaPFnExactNextRowx0
import Derived.Test.YtmpmmhmnjdkgcaaPFnExactNextRowx1
import Derived.Test.YtmpmmhmnjdkgcaaPFnExactNextRowx2
import Derived.Test.YtmpmmhmnjdkgcaaPFnExactNextRowx3
import Derived.Test.YtmpmmhmnjdkgcaaPFnExactNextRowx4
namespace Go.Proofs.Ytmpmmhmnjdkgcaa.PFnExactNextRow
open Go.RowKit Go.Proofs.YtmpmmhmnjdkgcaaW.PrintWords Go.Proofs.YtmpmmhmnjdkgcaaW.PrintLast Go.Proofs.YtmpmmhmnjdkgcaaW.PrintMore
attribute [local go_sem] max2_int min2_int max_two min_two max_three min_three max_four min_four   -- for this text's walks alone
set_option linter.unusedVariables false
set_option linter.unusedSimpArgs false

end Go.Proofs.Ytmpmmhmnjdkgcaa.PFnExactNextRow

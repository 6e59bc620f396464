-- Written for this claim by a program of this session (wip/tools/xprint.py over the kit's printer).
import Derived.Test.YtmpmmhmnjdkgcaaPFnExactTermsOfx0
import Derived.Test.YtmpmmhmnjdkgcaaPFnExactTermsOfx1
import Derived.Test.YtmpmmhmnjdkgcaaPFnExactTermsOfx2
import Derived.Test.YtmpmmhmnjdkgcaaPFnExactTermsOfx3
import Derived.Test.YtmpmmhmnjdkgcaaPFnExactTermsOfx4
namespace Go.Proofs.Ytmpmmhmnjdkgcaa.PFnExactTermsOf
open Go.RowKit Go.Proofs.YtmpmmhmnjdkgcaaW.PrintWords Go.Proofs.YtmpmmhmnjdkgcaaW.PrintLast Go.Proofs.YtmpmmhmnjdkgcaaW.PrintMore
attribute [local go_sem] max2_int min2_int max_two min_two max_three min_three max_four min_four   -- for this text's walks alone
set_option linter.unusedVariables false
set_option linter.unusedSimpArgs false

end Go.Proofs.Ytmpmmhmnjdkgcaa.PFnExactTermsOf

-- Written for this claim by a program of this session (wip/tools/xprint.py over the kit's printer).
import Derived.Test.YtmpmmhmnjdkgcabPFnExactClosesAtx0
import Derived.Test.YtmpmmhmnjdkgcabPFnExactClosesAtx1
import Derived.Test.YtmpmmhmnjdkgcabPFnExactClosesAtx2
import Derived.Test.YtmpmmhmnjdkgcabPFnExactClosesAtx3
import Derived.Test.YtmpmmhmnjdkgcabPFnExactClosesAtx4
import Derived.Test.YtmpmmhmnjdkgcabPFnExactClosesAtx5
namespace Go.Proofs.Ytmpmmhmnjdkgcab.PFnExactClosesAt
open Go.RowKit Go.Proofs.YtmpmmhmnjdkgcabW.PrintWords Go.Proofs.YtmpmmhmnjdkgcabW.PrintLast Go.Proofs.YtmpmmhmnjdkgcabW.PrintMore
attribute [local go_sem] max2_int min2_int max_two min_two max_three min_three max_four min_four   -- for this text's walks alone
set_option linter.unusedVariables false
set_option linter.unusedSimpArgs false

end Go.Proofs.Ytmpmmhmnjdkgcab.PFnExactClosesAt

-- Written for this claim by a program of this session (wip/tools/xprint.py over the kit's printer).
import Derived.Test.YtmpmmhmnjdkgcabPFnExactQuiddityOfx0
import Derived.Test.YtmpmmhmnjdkgcabPFnExactQuiddityOfx1
import Derived.Test.YtmpmmhmnjdkgcabPFnExactQuiddityOfx2
import Derived.Test.YtmpmmhmnjdkgcabPFnExactQuiddityOfx3
import Derived.Test.YtmpmmhmnjdkgcabPFnExactQuiddityOfx4
import Derived.Test.YtmpmmhmnjdkgcabPFnExactQuiddityOfx5
import Derived.Test.YtmpmmhmnjdkgcabPFnExactQuiddityOfx6
import Derived.Test.YtmpmmhmnjdkgcabPFnExactQuiddityOfx7
import Derived.Test.YtmpmmhmnjdkgcabPFnExactQuiddityOfx8
namespace Go.Proofs.Ytmpmmhmnjdkgcab.PFnExactQuiddityOf
open Go.RowKit Go.Proofs.YtmpmmhmnjdkgcabW.PrintWords Go.Proofs.YtmpmmhmnjdkgcabW.PrintLast Go.Proofs.YtmpmmhmnjdkgcabW.PrintMore
attribute [local go_sem] max2_int min2_int max_two min_two max_three min_three max_four min_four   -- for this text's walks alone
set_option linter.unusedVariables false
set_option linter.unusedSimpArgs false

end Go.Proofs.Ytmpmmhmnjdkgcab.PFnExactQuiddityOf

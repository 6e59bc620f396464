-- Written for this claim by a program of this session (wip/tools/xprint.py over the kit's printer).
import Derived.Test.YtmpmmhmnjdkgcabPFnExactContinuantTablex0
import Derived.Test.YtmpmmhmnjdkgcabPFnExactContinuantTablex1
import Derived.Test.YtmpmmhmnjdkgcabPFnExactContinuantTablex2
import Derived.Test.YtmpmmhmnjdkgcabPFnExactContinuantTablex3
import Derived.Test.YtmpmmhmnjdkgcabPFnExactContinuantTablex4
namespace Go.Proofs.Ytmpmmhmnjdkgcab.PFnExactContinuantTable
open Go.RowKit Go.Proofs.YtmpmmhmnjdkgcabW.PrintWords Go.Proofs.YtmpmmhmnjdkgcabW.PrintLast Go.Proofs.YtmpmmhmnjdkgcabW.PrintMore
attribute [local go_sem] max2_int min2_int max_two min_two max_three min_three max_four min_four   -- for this text's walks alone
set_option linter.unusedVariables false
set_option linter.unusedSimpArgs false

end Go.Proofs.Ytmpmmhmnjdkgcab.PFnExactContinuantTable

-- Written for this claim by a program of this session (wip/tools/xprint.py over the kit's printer).
import Derived.Test.YtmpmmhmnjdkgcabPFnExactTrianglesOfx0
import Derived.Test.YtmpmmhmnjdkgcabPFnExactTrianglesOfx1
import Derived.Test.YtmpmmhmnjdkgcabPFnExactTrianglesOfx2
import Derived.Test.YtmpmmhmnjdkgcabPFnExactTrianglesOfx3
import Derived.Test.YtmpmmhmnjdkgcabPFnExactTrianglesOfx4
import Derived.Test.YtmpmmhmnjdkgcabPFnExactTrianglesOfx5
import Derived.Test.YtmpmmhmnjdkgcabPFnExactTrianglesOfx6
import Derived.Test.YtmpmmhmnjdkgcabPFnExactTrianglesOfx7
import Derived.Test.YtmpmmhmnjdkgcabPFnExactTrianglesOfx8
import Derived.Test.YtmpmmhmnjdkgcabPFnExactTrianglesOfx9
import Derived.Test.YtmpmmhmnjdkgcabPFnExactTrianglesOfx10
namespace Go.Proofs.Ytmpmmhmnjdkgcab.PFnExactTrianglesOf
open Go.RowKit Go.Proofs.YtmpmmhmnjdkgcabW.PrintWords Go.Proofs.YtmpmmhmnjdkgcabW.PrintLast Go.Proofs.YtmpmmhmnjdkgcabW.PrintMore
attribute [local go_sem] max2_int min2_int max_two min_two max_three min_three max_four min_four   -- for this text's walks alone
set_option linter.unusedVariables false
set_option linter.unusedSimpArgs false

end Go.Proofs.Ytmpmmhmnjdkgcab.PFnExactTrianglesOf

-- Written for this claim by a program of this session (wip/tools/xprint.py over the kit's printer).
import Derived.Test.YtmpmmhmnjdkgcabPFnExactAllTriangulationsx0
import Derived.Test.YtmpmmhmnjdkgcabPFnExactAllTriangulationsx1
import Derived.Test.YtmpmmhmnjdkgcabPFnExactAllTriangulationsx2
import Derived.Test.YtmpmmhmnjdkgcabPFnExactAllTriangulationsx3
import Derived.Test.YtmpmmhmnjdkgcabPFnExactAllTriangulationsx4
import Derived.Test.YtmpmmhmnjdkgcabPFnExactAllTriangulationsx5
import Derived.Test.YtmpmmhmnjdkgcabPFnExactAllTriangulationsx6
import Derived.Test.YtmpmmhmnjdkgcabPFnExactAllTriangulationsx7
import Derived.Test.YtmpmmhmnjdkgcabPFnExactAllTriangulationsx8
import Derived.Test.YtmpmmhmnjdkgcabPFnExactAllTriangulationsx9
namespace Go.Proofs.Ytmpmmhmnjdkgcab.PFnExactAllTriangulations
open Go.RowKit Go.Proofs.YtmpmmhmnjdkgcabW.PrintWords Go.Proofs.YtmpmmhmnjdkgcabW.PrintLast Go.Proofs.YtmpmmhmnjdkgcabW.PrintMore
attribute [local go_sem] max2_int min2_int max_two min_two max_three min_three max_four min_four   -- for this text's walks alone
set_option linter.unusedVariables false
set_option linter.unusedSimpArgs false

end Go.Proofs.Ytmpmmhmnjdkgcab.PFnExactAllTriangulations

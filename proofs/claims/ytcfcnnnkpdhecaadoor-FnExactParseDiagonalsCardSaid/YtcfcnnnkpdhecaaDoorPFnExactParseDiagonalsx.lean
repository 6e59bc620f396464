-- Written for this claim by a program of this session (wip/tools/xprint.py over the kit's printer).
import Derived.Test.YtcfcnnnkpdhecaaDoorPFnExactParseDiagonalsx0
import Derived.Test.YtcfcnnnkpdhecaaDoorPFnExactParseDiagonalsx1
import Derived.Test.YtcfcnnnkpdhecaaDoorPFnExactParseDiagonalsx2
import Derived.Test.YtcfcnnnkpdhecaaDoorPFnExactParseDiagonalsx3
import Derived.Test.YtcfcnnnkpdhecaaDoorPFnExactParseDiagonalsx4
import Derived.Test.YtcfcnnnkpdhecaaDoorPFnExactParseDiagonalsx5
import Derived.Test.YtcfcnnnkpdhecaaDoorPFnExactParseDiagonalsx6
import Derived.Test.YtcfcnnnkpdhecaaDoorPFnExactParseDiagonalsx7
namespace Go.Proofs.YtcfcnnnkpdhecaaDoor.PFnExactParseDiagonals
open Go.RowKit Go.Proofs.YtcfcnnnkpdhecaaDoorW.PrintWords Go.Proofs.YtcfcnnnkpdhecaaDoorW.PrintLast Go.Proofs.YtcfcnnnkpdhecaaDoorW.PrintMore
attribute [local go_sem] max2_int min2_int max_two min_two max_three min_three max_four min_four   -- for this text's walks alone
set_option linter.unusedVariables false
set_option linter.unusedSimpArgs false

end Go.Proofs.YtcfcnnnkpdhecaaDoor.PFnExactParseDiagonals

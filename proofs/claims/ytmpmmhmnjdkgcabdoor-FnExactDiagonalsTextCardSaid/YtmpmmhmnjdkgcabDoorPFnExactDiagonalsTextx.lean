-- Written for this claim by a program of this session (wip/tools/xprint.py over the kit's printer).
import Derived.Test.YtmpmmhmnjdkgcabDoorPFnExactDiagonalsTextx0
import Derived.Test.YtmpmmhmnjdkgcabDoorPFnExactDiagonalsTextx1
import Derived.Test.YtmpmmhmnjdkgcabDoorPFnExactDiagonalsTextx2
import Derived.Test.YtmpmmhmnjdkgcabDoorPFnExactDiagonalsTextx3
import Derived.Test.YtmpmmhmnjdkgcabDoorPFnExactDiagonalsTextx4
import Derived.Test.YtmpmmhmnjdkgcabDoorPFnExactDiagonalsTextx5
namespace Go.Proofs.YtmpmmhmnjdkgcabDoor.PFnExactDiagonalsText
open Go.RowKit Go.Proofs.YtmpmmhmnjdkgcabDoorW.PrintWords Go.Proofs.YtmpmmhmnjdkgcabDoorW.PrintLast Go.Proofs.YtmpmmhmnjdkgcabDoorW.PrintMore
attribute [local go_sem] max2_int min2_int max_two min_two max_three min_three max_four min_four   -- for this text's walks alone
set_option linter.unusedVariables false
set_option linter.unusedSimpArgs false

end Go.Proofs.YtmpmmhmnjdkgcabDoor.PFnExactDiagonalsText

/- The plain statement of FnExactConstants, over numbers and lists: the program's answer is the reference's. -/
import Derived.Test.YtaifhinhdjldmaaPFnExactConstantsx
set_option linter.unusedVariables false
set_option linter.unusedSimpArgs false
namespace Go.Proofs.Ytaifhinhdjldmaa.Pure
open Go.RowKit Go.Proofs.Ytaifhinhdjldmaa.PFnExactConstants Go.Proofs.YtaifhinhdjldmaaW.PrintWords Go.Proofs.YtaifhinhdjldmaaW.PrintLast

theorem FnExactConstants : laws_FnExactConstants.Pure := by
  unfold laws_FnExactConstants.Pure laws_FnExactConstants.f
  decide

end Go.Proofs.Ytaifhinhdjldmaa.Pure

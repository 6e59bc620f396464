/- A part of the look through all triangulations: the kernel computes both programs' answers. -/
import Derived.Test.YtobddjeefcoikaaGreatPFnQuidditiesTellx
import Derived.Test.YtobddjeefcoikaaGreatPureFnQuidditiesTellA
set_option linter.unusedVariables false
set_option linter.unusedSimpArgs false
namespace Go.Proofs.YtobddjeefcoikaaGreat.Pure
open Go.RowKit Go.Proofs.YtobddjeefcoikaaGreat.PFnQuidditiesTell Go.Proofs.YtobddjeefcoikaaGreatW.PrintWords Go.Proofs.YtobddjeefcoikaaGreatW.PrintLast

theorem look9_132 : (((en 9).drop 132).take 22).all (chk 3000 9) = true := by decide +kernel
theorem look9_154 : (((en 9).drop 154).take 22).all (chk 3000 9) = true := by decide +kernel

end Go.Proofs.YtobddjeefcoikaaGreat.Pure

/- A part of the look through all triangulations: the kernel computes both programs' answers. -/
import Derived.Test.YtobddjeefcoikaaGreatPFnQuidditiesTellx
import Derived.Test.YtobddjeefcoikaaGreatPureFnQuidditiesTellA
set_option linter.unusedVariables false
set_option linter.unusedSimpArgs false
namespace Go.Proofs.YtobddjeefcoikaaGreat.Pure
open Go.RowKit Go.Proofs.YtobddjeefcoikaaGreat.PFnQuidditiesTell Go.Proofs.YtobddjeefcoikaaGreatW.PrintWords Go.Proofs.YtobddjeefcoikaaGreatW.PrintLast

theorem look3_0 : (((en 3).drop 0).take 1).all (chk 3000 3) = true := by decide +kernel
theorem look4_0 : (((en 4).drop 0).take 2).all (chk 3000 4) = true := by decide +kernel
theorem look5_0 : (((en 5).drop 0).take 5).all (chk 3000 5) = true := by decide +kernel
theorem look6_0 : (((en 6).drop 0).take 14).all (chk 3000 6) = true := by decide +kernel
theorem look7_0 : (((en 7).drop 0).take 42).all (chk 3000 7) = true := by decide +kernel

end Go.Proofs.YtobddjeefcoikaaGreat.Pure

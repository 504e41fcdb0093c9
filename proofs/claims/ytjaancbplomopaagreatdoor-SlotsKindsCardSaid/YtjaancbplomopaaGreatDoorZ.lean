/- The chapter's example comes to true. No conditions. -/
import Derived.Test.YtjaancbplomopaaGreatDoorX
set_option linter.unusedVariables false
set_option linter.unusedSimpArgs false
set_option linter.unusedSectionVars false
set_option maxRecDepth 100000
section
open Go Go.Proofs Ev
namespace Sx
theorem wkx:run661 ()=some true:=by kernel_rfl
theorem k661:FnOk Tryz.prog 15 s661:=FnOk.tt (run:=run661) kx661 wkx
end Sx
end

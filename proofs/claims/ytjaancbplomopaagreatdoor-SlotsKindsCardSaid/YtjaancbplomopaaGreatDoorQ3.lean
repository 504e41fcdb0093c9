/- Chains of the example, fourth part, reckoned. No conditions. -/
import Derived.Test.YtjaancbplomopaaGreatDoorQ
set_option linter.unusedVariables false
set_option linter.unusedSimpArgs false
set_option linter.unusedSectionVars false
set_option maxRecDepth 100000
section
open Go Go.Proofs Ev
namespace Sx
theorem wQ3_ok:wQ3.all quadB=true:=by kernel_rfl
end Sx
end

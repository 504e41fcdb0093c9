/- A leaf's public digest is there, by the code. No conditions. -/
import Derived.Test.YtjaancbplomopaaGreatDoorY
set_option linter.unusedVariables false
set_option linter.unusedSimpArgs false
set_option linter.unusedSectionVars false
set_option maxRecDepth 100000
section
open Go Go.Proofs Ev
namespace Sx
theorem pub0(g:Nat->UInt8):(gp573.run (sp16 g,(0:Int),())).isSome=true:=by kernel_rfl
end Sx
end

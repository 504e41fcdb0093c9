/- The document's example comes to true. No conditions. -/
import Derived.Test.YtedblfoeicnobaaGreatDoorE
set_option linter.unusedVariables false
set_option linter.unusedSimpArgs false
set_option linter.unusedSectionVars false
set_option maxRecDepth 100000
section
open Go Go.Proofs Ev Sx
theorem wk : (r14 () : Option Bool) = some true := by kernel_rfl
end

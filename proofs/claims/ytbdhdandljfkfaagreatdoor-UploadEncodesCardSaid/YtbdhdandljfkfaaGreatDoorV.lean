/- Plain laws of matrices over the field of 256, at literals: six rows. No conditions. -/
import Derived.Test.YtbdhdandljfkfaaGreatDoorK
set_option linter.unusedVariables false
set_option linter.unusedSimpArgs false
set_option linter.unusedSectionVars false
set_option maxRecDepth 100000
section
open Go Go.Proofs Ev Sx
namespace Mx
theorem i121_6:E121 (some (some gfL)) t161 t162 t187 [[1,0,0,0,0,0],[1,1,1,1,1,1],[1,2,4,8,16,32],[1,3,5,15,17,51],[1,4,16,64,29,116],[1,5,17,85,28,108]]=some ([[1,0,0,0,0,0],[155,1,211,105,160,128],[219,154,9,147,176,107],[65,65,154,154,219,219],[219,0,96,64,48,203],[219,219,32,32,251,251]],0):=by kernel_rfl
end Mx
end

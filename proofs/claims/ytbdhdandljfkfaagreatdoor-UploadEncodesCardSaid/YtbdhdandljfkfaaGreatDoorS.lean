/- Plain laws of matrices over the field of 256, at literals: fourth part. No conditions. -/
import Derived.Test.YtbdhdandljfkfaaGreatDoorK
set_option linter.unusedVariables false
set_option linter.unusedSimpArgs false
set_option linter.unusedSectionVars false
set_option maxRecDepth 100000
section
open Go Go.Proofs Ev Sx
namespace Mx
theorem i121_5:E121 (some (some gfL)) t161 t162 t187 [[1,0,0,0,0],[1,1,1,1,1],[1,2,4,8,16],[1,3,5,15,17],[1,4,16,64,29]]=some ([[1,0,0,0,0],[60,166,244,78,32],[215,150,110,244,219],[122,122,122,122,0],[144,75,224,192,251]],0):=by kernel_rfl
end Mx
end

/- Plain laws of matrices over the field of 256, at literals: second part. No conditions. -/
import Derived.Test.YtbdhdandljfkfaaGreatDoorK
set_option linter.unusedVariables false
set_option linter.unusedSimpArgs false
set_option linter.unusedSectionVars false
set_option maxRecDepth 100000
section
open Go Go.Proofs Ev Sx
namespace Mx
theorem i121_4:E121 (some (some gfL)) t161 t162 t187 [[1,0,0,0],[1,1,1,1],[1,2,4,8],[1,3,5,15]]=some ([[1,0,0,0],[123,1,142,244],[0,122,244,142],[122,122,122,122]],0):=by kernel_rfl
end Mx
end
section
open Go Go.Proofs Ev Sx
namespace Mx
theorem i116_4:E116 t80 (t149 t80) [[1,0,0,0],[1,1,1,1],[1,2,4,8],[1,3,5,15]]=some ([[1,0,0,0],[123,1,142,244],[0,122,244,142],[122,122,122,122]],true):=by kernel_rfl
end Mx
end

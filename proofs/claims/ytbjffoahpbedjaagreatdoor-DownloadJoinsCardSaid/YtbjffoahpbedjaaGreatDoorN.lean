/- Plain laws of inverse matrices over the field of 256, at literals. No conditions. -/
import Derived.Test.YtbjffoahpbedjaaGreatDoorK
set_option linter.unusedVariables false
set_option linter.unusedSimpArgs false
set_option linter.unusedSectionVars false
set_option maxRecDepth 100000
section
open Go Go.Proofs Ev Sx
namespace Mx
theorem b121_5:E121 (some (some gfF)) t161 t162 t187 [[1,0],[2,3]]=some ([[1,0],[245,244]],0):=by kernel_rfl
theorem b121_10:E121 (some (some gfF)) t161 t162 t187 [[0,1,0],[0,0,1],[1,1,1]]=some ([[1,1,1],[1,0,0],[0,1,0]],0):=by kernel_rfl
theorem b121_11:E121 (some (some gfF)) t161 t162 t187 [[1,0,0,0],[0,1,0,0],[0,0,1,0],[0,0,0,1]]=some ([[1,0,0,0],[0,1,0,0],[0,0,1,0],[0,0,0,1]],0):=by kernel_rfl
end Mx
end
section
open Go Go.Proofs Ev Sx
namespace Mx
theorem b121_1:E121 (some (some gfF)) t161 t162 t187 [[1,0],[0,1]]=some ([[1,0],[0,1]],0):=by kernel_rfl
theorem b121_4:E121 (some (some gfF)) t161 t162 t187 [[1,0,0],[0,1,0],[0,0,1]]=some ([[1,0,0],[0,1,0],[0,0,1]],0):=by kernel_rfl
theorem b121_6:E121 (some (some gfF)) t161 t162 t187 [[0,1],[2,3]]=some ([[143,142],[1,0]],0):=by kernel_rfl
end Mx
end
section
open Go Go.Proofs Ev Sx
namespace Mx
theorem b121_2:E121 (some (some gfF)) t161 t162 t187 [[1,0],[3,2]]=some ([[1,0],[143,142]],0):=by kernel_rfl
theorem b121_7:E121 (some (some gfF)) t161 t162 t187 [[3,2],[2,3]]=some ([[3,2],[2,3]],0):=by kernel_rfl
theorem b121_8:E121 (some (some gfF)) t161 t162 t187 [[1,0,0],[0,1,0],[1,1,1]]=some ([[1,0,0],[0,1,0],[1,1,1]],0):=by kernel_rfl
end Mx
end
section
open Go Go.Proofs Ev Sx
namespace Mx
theorem b121_0:E121 (some (some gfF)) t161 t162 t187 [[1]]=some ([[1]],0):=by kernel_rfl
theorem b121_3:E121 (some (some gfF)) t161 t162 t187 [[0,1],[3,2]]=some ([[245,244],[1,0]],0):=by kernel_rfl
theorem b121_9:E121 (some (some gfF)) t161 t162 t187 [[1,0,0],[0,0,1],[1,1,1]]=some ([[1,0,0],[1,1,1],[0,1,0]],0):=by kernel_rfl
end Mx
end

/- Plain laws of matrices over the field of 256, at literals: first part. No conditions. -/
import Derived.Test.YtbjffoahpbedjaaGreatDoorK
set_option linter.unusedVariables false
set_option linter.unusedSimpArgs false
set_option linter.unusedSectionVars false
set_option maxRecDepth 100000
section
open Go Go.Proofs Ev Sx
namespace Mx
theorem v120_11:E120 (some (some gfF)) t154 1 1=some [[1]]:=by kernel_rfl
theorem v115_11:E115 (t147 t80) 1 1=some [[1]]:=by kernel_rfl
theorem v120_21:E120 (some (some gfF)) t154 2 1=some [[1],[1]]:=by kernel_rfl
theorem v115_21:E115 (t147 t80) 2 1=some [[1],[1]]:=by kernel_rfl
theorem v120_22:E120 (some (some gfF)) t154 2 2=some [[1,0],[1,1]]:=by kernel_rfl
theorem v115_22:E115 (t147 t80) 2 2=some [[1,0],[1,1]]:=by kernel_rfl
theorem v120_31:E120 (some (some gfF)) t154 3 1=some [[1],[1],[1]]:=by kernel_rfl
theorem v115_31:E115 (t147 t80) 3 1=some [[1],[1],[1]]:=by kernel_rfl
theorem v120_32:E120 (some (some gfF)) t154 3 2=some [[1,0],[1,1],[1,2]]:=by kernel_rfl
theorem v115_32:E115 (t147 t80) 3 2=some [[1,0],[1,1],[1,2]]:=by kernel_rfl
theorem v120_33:E120 (some (some gfF)) t154 3 3=some [[1,0,0],[1,1,1],[1,2,4]]:=by kernel_rfl
theorem v115_33:E115 (t147 t80) 3 3=some [[1,0,0],[1,1,1],[1,2,4]]:=by kernel_rfl
theorem v120_41:E120 (some (some gfF)) t154 4 1=some [[1],[1],[1],[1]]:=by kernel_rfl
theorem v115_41:E115 (t147 t80) 4 1=some [[1],[1],[1],[1]]:=by kernel_rfl
theorem v120_42:E120 (some (some gfF)) t154 4 2=some [[1,0],[1,1],[1,2],[1,3]]:=by kernel_rfl
theorem v115_42:E115 (t147 t80) 4 2=some [[1,0],[1,1],[1,2],[1,3]]:=by kernel_rfl
theorem v120_43:E120 (some (some gfF)) t154 4 3=some [[1,0,0],[1,1,1],[1,2,4],[1,3,5]]:=by kernel_rfl
theorem v115_43:E115 (t147 t80) 4 3=some [[1,0,0],[1,1,1],[1,2,4],[1,3,5]]:=by kernel_rfl
theorem v120_44:E120 (some (some gfF)) t154 4 4=some [[1,0,0,0],[1,1,1,1],[1,2,4,8],[1,3,5,15]]:=by kernel_rfl
theorem v115_44:E115 (t147 t80) 4 4=some [[1,0,0,0],[1,1,1,1],[1,2,4,8],[1,3,5,15]]:=by kernel_rfl
end Mx
end
section
open Go Go.Proofs Ev Sx
namespace Mx
theorem i121_1:E121 (some (some gfF)) t161 t162 t187 [[1]]=some ([[1]],0):=by kernel_rfl
end Mx
end
section
open Go Go.Proofs Ev Sx
namespace Mx
theorem i121_2:E121 (some (some gfF)) t161 t162 t187 [[1,0],[1,1]]=some ([[1,0],[1,1]],0):=by kernel_rfl
end Mx
end
section
open Go Go.Proofs Ev Sx
namespace Mx
theorem i121_3:E121 (some (some gfF)) t161 t162 t187 [[1,0,0],[1,1,1],[1,2,4]]=some ([[1,0,0],[143,245,122],[142,244,122]],0):=by kernel_rfl
end Mx
end
section
open Go Go.Proofs Ev Sx
namespace Mx
theorem m122_11:E122 (some (some gfF)) (t164 t161 (t188 t187)) [[1]] [[1]]=some ([[1]],0):=by kernel_rfl
theorem m122_21:E122 (some (some gfF)) (t164 t161 (t188 t187)) [[1],[1]] [[1]]=some ([[1],[1]],0):=by kernel_rfl
theorem m122_22:E122 (some (some gfF)) (t164 t161 (t188 t187)) [[1,0],[1,1]] [[1,0],[1,1]]=some ([[1,0],[0,1]],0):=by kernel_rfl
theorem m122_31:E122 (some (some gfF)) (t164 t161 (t188 t187)) [[1],[1],[1]] [[1]]=some ([[1],[1],[1]],0):=by kernel_rfl
theorem m122_32:E122 (some (some gfF)) (t164 t161 (t188 t187)) [[1,0],[1,1],[1,2]] [[1,0],[1,1]]=some ([[1,0],[0,1],[3,2]],0):=by kernel_rfl
theorem m122_33:E122 (some (some gfF)) (t164 t161 (t188 t187)) [[1,0,0],[1,1,1],[1,2,4]] [[1,0,0],[143,245,122],[142,244,122]]=some ([[1,0,0],[0,1,0],[0,0,1]],0):=by kernel_rfl
theorem m122_41:E122 (some (some gfF)) (t164 t161 (t188 t187)) [[1],[1],[1],[1]] [[1]]=some ([[1],[1],[1],[1]],0):=by kernel_rfl
theorem m122_42:E122 (some (some gfF)) (t164 t161 (t188 t187)) [[1,0],[1,1],[1,2],[1,3]] [[1,0],[1,1]]=some ([[1,0],[0,1],[3,2],[2,3]],0):=by kernel_rfl
theorem m122_43:E122 (some (some gfF)) (t164 t161 (t188 t187)) [[1,0,0],[1,1,1],[1,2,4],[1,3,5]] [[1,0,0],[143,245,122],[142,244,122]]=some ([[1,0,0],[0,1,0],[0,0,1],[1,1,1]],0):=by kernel_rfl
theorem m122_44:E122 (some (some gfF)) (t164 t161 (t188 t187)) [[1,0,0,0],[1,1,1,1],[1,2,4,8],[1,3,5,15]] [[1,0,0,0],[123,1,142,244],[0,122,244,142],[122,122,122,122]]=some ([[1,0,0,0],[0,1,0,0],[0,0,1,0],[0,0,0,1]],0):=by kernel_rfl
end Mx
end
